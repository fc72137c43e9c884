-- Text written by a program of this session (wip/tools: the kit's printer with additions of ours).
import Derived.Test.YtjgdfbcjlebniaaMFnExactNewDatax0
import Derived.Test.YtjgdfbcjlebniaaMFnExactNewDatax1
import Derived.Test.YtjgdfbcjlebniaaMFnExactNewDatax4
import Derived.Test.YtjgdfbcjlebniaaMFnExactNewDatax7
import Derived.Test.YtjgdfbcjlebniaaMFnExactNewDatax9
import Derived.Test.YtjgdfbcjlebniaaMFnExactNewDatax10
import Derived.Test.YtjgdfbcjlebniaaMFnExactNewDatax11
import Derived.Test.YtjgdfbcjlebniaaMFnExactNewDatax13
namespace Go.Proofs.Ytjgdfbcjlebniaa.MFnExactNewData
open Go.RowKit Go.Proofs.YtjgdfbcjlebniaaW.PrintWords Go.Proofs.YtjgdfbcjlebniaaW.PrintLast Go.Proofs.YtjgdfbcjlebniaaW.PrintMore
attribute [local go_sem] max2_int min2_int max_two min_two max_three min_three max_four min_four   -- for this text's walks alone
set_option linter.unusedVariables false
set_option linter.unusedSimpArgs false
abbrev za := @Aside0.mk
abbrev zb := @Kd.C_alloc
abbrev zc := @Kd.C_drew
abbrev zd := @Kd.C_drewN
abbrev ze := @Kd.R_alloc
abbrev zf := @Kd.R_apart'
abbrev zg := @Kd.R_base
abbrev zh := @Kd.R_below
abbrev zi := @Kd.R_drew
abbrev zj := @Kd.R_drewN
abbrev zk := @Kd.R_lower
abbrev zl := @Kd.R_lt
abbrev zm := @Kd.R_mono
abbrev zn := @Kd.R_new'
abbrev zo := @Kd.R_reads'
abbrev zp := @Kd.R_slice
abbrev zq := @Kd.R_told
abbrev zr := @Kd.R_typed
abbrev zs := @below_alloc
abbrev zt := @below_drew1
abbrev zu := @below_set
abbrev zv := @below_size
abbrev zw := @blk_alloc
abbrev zx := @blk_below
abbrev zy := @blk_cell
abbrev zz := @blk_drew
abbrev zA := @blk_drewN
abbrev zB := @blk_far
abbrev zC := @blk_frozen
abbrev zD := @pw_below_drewN
theorem Kd_R_far7 {α : Type} {d : Kd α} {e base g t : Nat} {ok : Nat → Prop} {w : World} {v : Value} {xs : List α} {cells : Array Value} {x0 x1 x2 x3 x4 x5 x6 : Value} (h : d.R e w base ok v xs) (hb : w.heap[g]? = some (.cells cells t (0, 0))) (ht : ∀ q, q ∈ e :: d.E → q ≠ t) :
  d.R e (((((((w.setCell ⟨g, 0, none⟩ x0).setCell ⟨g, 1, none⟩ x1).setCell ⟨g, 2, none⟩ x2).setCell ⟨g, 3, none⟩ x3).setCell ⟨g, 4, none⟩ x4).setCell ⟨g, 5, none⟩ x5).setCell ⟨g, 6, none⟩ x6) base (fun k => ok k ∧ k ≠ g) v xs :=
 Kd.R_far (p := ⟨g, 6, none⟩) (Kd.R_far (p := ⟨g, 5, none⟩) (Kd.R_far (p := ⟨g, 4, none⟩) (Kd.R_far (p := ⟨g, 3, none⟩) (Kd.R_far (p := ⟨g, 2, none⟩) (Kd.R_far (p := ⟨g, 1, none⟩) (Kd.R_far (p := ⟨g, 0, none⟩) (Kd.R_types h hb ht) (fun _ hk => hk.2) x0) (fun _ hk => hk.2) x1) (fun _ hk => hk.2) x2) (fun _ hk => hk.2) x3) (fun _ hk => hk.2) x4) (fun _ hk => hk.2) x5) (fun _ hk => hk.2) x6

/-! ### laws_FnExactNewData: function 4 -/
mutual
def laws_FnExactNewData.j0 : Nat → List Int → Int → List Int → Int → Bool → List Int → List (S77) → List Bool → List Bool → List Bool → List Bool → Int → List Int → List (S77) → List Bool → List Bool → List Bool → List Bool → Int → Option (Bool)
 | 0, _, _, _, _, _, _, _, _, _, _, _, _, _, _, _, _, _, _, _ => none
 | k + 1, x0, x4, x5, x7, x37, x264000, x264001, x264002, x264003, x264004, x264005, x264006, x288000, x288001, x288002, x288003, x288004, x288005, x288006 => if x37 = true then (some false) else ((laws_toIntS.f k x0).bind fun t289 => ((laws_eqIntS.f k x5 t289).bind fun t292 => (if t292 = true then ((laws_markIntS.f k x5 1).bind fun bt293 => (if bt293.1 < 0 then (laws_FnExactNewData.j1 k x0 x4 true x264000 x264001 x264002 x264003 x264004 x264005 x264006 x288000 x288001 x288002 x288003 x288004 x288005 x288006) else ((laws_eqData.f k x288000 x288001 x288002 x288003 x288004 x288005 x288006 x264000 x264001 x264002 x264003 x264004 x264005 x264006).bind fun t295 => (if t295 = true then (laws_FnExactNewData.j1 k x0 x4 (x7 != x4) x264000 x264001 x264002 x264003 x264004 x264005 x264006 x288000 x288001 x288002 x288003 x288004 x288005 x288006) else (laws_FnExactNewData.j1 k x0 x4 true x264000 x264001 x264002 x264003 x264004 x264005 x264006 x288000 x288001 x288002 x288003 x288004 x288005 x288006))))) else (some false))))
def laws_FnExactNewData.j1 : Nat → List Int → Int → Bool → List Int → List (S77) → List Bool → List Bool → List Bool → List Bool → Int → List Int → List (S77) → List Bool → List Bool → List Bool → List Bool → Int → Option (Bool)
 | 0, _, _, _, _, _, _, _, _, _, _, _, _, _, _, _, _, _ => none
 | k + 1, x0, x4, x58, x264000, x264001, x264002, x264003, x264004, x264005, x264006, x288000, x288001, x288002, x288003, x288004, x288005, x288006 => if x58 = true then (some false) else ((laws_markData.f k x288000 x288001 x288002 x288003 x288004 x288005 x288006 1).bind fun bt296 => ((laws_heldData.f k bt296.2.1 bt296.2.2.1 bt296.2.2.2.1 bt296.2.2.2.2.1 bt296.2.2.2.2.2.1 bt296.2.2.2.2.2.2 x288006 1).bind fun t303 => (if t303 < 0 then (some false) else (if t303 = bt296.1 then ((laws_toIntS.f k x0).bind fun t304 => ((impl_NewData.f k t304).bind fun bt307 => ((laws_eqData.f k bt307.1 bt307.2.1 bt307.2.2.1 bt307.2.2.2.1 bt307.2.2.2.2.1 bt307.2.2.2.2.2.1 bt307.2.2.2.2.2.2.1 x264000 x264001 x264002 x264003 x264004 x264005 x264006).bind fun t328 => (if t328 = true then (laws_FnExactNewData.j2 k bt296.1 (bt307.2.2.2.2.2.2.2 != x4) bt296.2.1 bt296.2.2.1 bt296.2.2.2.1 bt296.2.2.2.2.1 bt296.2.2.2.2.2.1 bt296.2.2.2.2.2.2 x288006) else (laws_FnExactNewData.j2 k bt296.1 true bt296.2.1 bt296.2.2.1 bt296.2.2.2.1 bt296.2.2.2.2.1 bt296.2.2.2.2.2.1 bt296.2.2.2.2.2.2 x288006))))) else (some false)))))
def laws_FnExactNewData.j2 : Nat → Int → Bool → List Int → List (S77) → List Bool → List Bool → List Bool → List Bool → Int → Option (Bool)
 | 0, _, _, _, _, _, _, _, _, _ => none
 | k + 1, x9, x84, x288000, x288001, x288002, x288003, x288004, x288005, x288006 => if x84 = true then (some false) else ((laws_heldData.f k x288000 x288001 x288002 x288003 x288004 x288005 x288006 1).bind fun t329 => (if t329 < 0 then (some false) else (if t329 = x9 then (some true) else (some false))))
end
def laws_FnExactNewData.f (k : Nat) (l0 : List Int) : Option (Bool) := if (l0.length : Int) > 1048576 then (some true) else ((laws_toIntS.f k l0).bind fun t240 => ((spec_NewData.f k t240).bind fun bt243 => ((laws_toIntS.f k l0).bind fun t264 => ((impl_NewData.f k t264).bind fun bt267 => ((laws_eqData.f k bt267.1 bt267.2.1 bt267.2.2.1 bt267.2.2.2.1 bt267.2.2.2.2.1 bt267.2.2.2.2.2.1 bt267.2.2.2.2.2.2.1 bt243.1 bt243.2.1 bt243.2.2.1 bt243.2.2.2.1 bt243.2.2.2.2.1 bt243.2.2.2.2.2.1 bt243.2.2.2.2.2.2.1).bind fun t288 => (if t288 = true then (laws_FnExactNewData.j0 k l0 bt243.2.2.2.2.2.2.2 t264 bt267.2.2.2.2.2.2.2 (bt267.2.2.2.2.2.2.2 != bt243.2.2.2.2.2.2.2) bt243.1 bt243.2.1 bt243.2.2.1 bt243.2.2.2.1 bt243.2.2.2.2.1 bt243.2.2.2.2.2.1 bt243.2.2.2.2.2.2.1 bt267.1 bt267.2.1 bt267.2.2.1 bt267.2.2.2.1 bt267.2.2.2.2.1 bt267.2.2.2.2.2.1 bt267.2.2.2.2.2.2.1) else (laws_FnExactNewData.j0 k l0 bt243.2.2.2.2.2.2.2 t264 bt267.2.2.2.2.2.2.2 true bt243.1 bt243.2.1 bt243.2.2.1 bt243.2.2.2.1 bt243.2.2.2.2.1 bt243.2.2.2.2.2.1 bt243.2.2.2.2.2.2.1 bt267.1 bt267.2.1 bt267.2.2.1 bt267.2.2.2.1 bt267.2.2.2.2.1 bt267.2.2.2.2.2.1 bt267.2.2.2.2.2.2.1)))))))
theorem laws_FnExactNewData.mono_l : ∀ k, (∀ y0 y1 y2 y3 y4 y5 y6 y7 y8 y9 y10 y11 y12 y13 y14 y15 y16 y17 y18, LeO (laws_FnExactNewData.j0 k y0 y1 y2 y3 y4 y5 y6 y7 y8 y9 y10 y11 y12 y13 y14 y15 y16 y17 y18) (laws_FnExactNewData.j0 (k + 1) y0 y1 y2 y3 y4 y5 y6 y7 y8 y9 y10 y11 y12 y13 y14 y15 y16 y17 y18)) ∧ (∀ y0 y1 y2 y3 y4 y5 y6 y7 y8 y9 y10 y11 y12 y13 y14 y15 y16, LeO (laws_FnExactNewData.j1 k y0 y1 y2 y3 y4 y5 y6 y7 y8 y9 y10 y11 y12 y13 y14 y15 y16) (laws_FnExactNewData.j1 (k + 1) y0 y1 y2 y3 y4 y5 y6 y7 y8 y9 y10 y11 y12 y13 y14 y15 y16)) ∧ (∀ y0 y1 y2 y3 y4 y5 y6 y7 y8, LeO (laws_FnExactNewData.j2 k y0 y1 y2 y3 y4 y5 y6 y7 y8) (laws_FnExactNewData.j2 (k + 1) y0 y1 y2 y3 y4 y5 y6 y7 y8))
 | 0 => ⟨fun _ _ _ _ _ _ _ _ _ _ _ _ _ _ _ _ _ _ _ r h => by simp [laws_FnExactNewData.j0] at h, fun _ _ _ _ _ _ _ _ _ _ _ _ _ _ _ _ _ r h => by simp [laws_FnExactNewData.j1] at h, fun _ _ _ _ _ _ _ _ _ r h => by simp [laws_FnExactNewData.j2] at h⟩
 | k + 1 => by
  obtain ⟨ih0, ih1, ih2⟩ := laws_FnExactNewData.mono_l k
  refine ⟨?_, ?_, ?_⟩
  ·
   intro y0 y1 y2 y3 y4 y5 y6 y7 y8 y9 y10 y11 y12 y13 y14 y15 y16 y17 y18
   unfold laws_FnExactNewData.j0
   repeat' first
   | (with_reducible exact ih0 _ _ _ _ _ _ _ _ _ _ _ _ _ _ _ _ _ _ _)
   | (with_reducible exact ih1 _ _ _ _ _ _ _ _ _ _ _ _ _ _ _ _ _)
   | (with_reducible exact ih2 _ _ _ _ _ _ _ _ _)
   | (with_reducible exact impl_NewData.mono _ _)
   | (with_reducible exact laws_eqData.mono _ _ _ _ _ _ _ _ _ _ _ _ _ _ _)
   | (with_reducible exact laws_eqIntS.mono _ _ _)
   | (with_reducible exact laws_heldData.mono _ _ _ _ _ _ _ _ _)
   | (with_reducible exact laws_markData.mono _ _ _ _ _ _ _ _ _)
   | (with_reducible exact laws_markIntS.mono _ _ _)
   | (with_reducible exact laws_toIntS.mono _ _)
   | (with_reducible exact spec_NewData.mono _ _)
   | (with_reducible exact LeO.refl _)
   | (with_reducible exact LeO.none _)
   | (with_reducible refine LeO.ite ?_ ?_)
   | (with_reducible refine LeO.bind ?_ (fun _ => ?_))
   | exact ih0 _ _ _ _ _ _ _ _ _ _ _ _ _ _ _ _ _ _ _
   | exact ih1 _ _ _ _ _ _ _ _ _ _ _ _ _ _ _ _ _
   | exact ih2 _ _ _ _ _ _ _ _ _
   | exact impl_NewData.mono _ _
   | exact laws_eqData.mono _ _ _ _ _ _ _ _ _ _ _ _ _ _ _
   | exact laws_eqIntS.mono _ _ _
   | exact laws_heldData.mono _ _ _ _ _ _ _ _ _
   | exact laws_markData.mono _ _ _ _ _ _ _ _ _
   | exact laws_markIntS.mono _ _ _
   | exact laws_toIntS.mono _ _
   | exact spec_NewData.mono _ _
   | exact LeO.none _
   | refine LeO.ite ?_ ?_
   | refine LeO.bind ?_ (fun _ => ?_)
  ·
   intro y0 y1 y2 y3 y4 y5 y6 y7 y8 y9 y10 y11 y12 y13 y14 y15 y16
   unfold laws_FnExactNewData.j1
   repeat' first
   | (with_reducible exact ih0 _ _ _ _ _ _ _ _ _ _ _ _ _ _ _ _ _ _ _)
   | (with_reducible exact ih1 _ _ _ _ _ _ _ _ _ _ _ _ _ _ _ _ _)
   | (with_reducible exact ih2 _ _ _ _ _ _ _ _ _)
   | (with_reducible exact impl_NewData.mono _ _)
   | (with_reducible exact laws_eqData.mono _ _ _ _ _ _ _ _ _ _ _ _ _ _ _)
   | (with_reducible exact laws_eqIntS.mono _ _ _)
   | (with_reducible exact laws_heldData.mono _ _ _ _ _ _ _ _ _)
   | (with_reducible exact laws_markData.mono _ _ _ _ _ _ _ _ _)
   | (with_reducible exact laws_markIntS.mono _ _ _)
   | (with_reducible exact laws_toIntS.mono _ _)
   | (with_reducible exact spec_NewData.mono _ _)
   | (with_reducible exact LeO.refl _)
   | (with_reducible exact LeO.none _)
   | (with_reducible refine LeO.ite ?_ ?_)
   | (with_reducible refine LeO.bind ?_ (fun _ => ?_))
   | exact ih0 _ _ _ _ _ _ _ _ _ _ _ _ _ _ _ _ _ _ _
   | exact ih1 _ _ _ _ _ _ _ _ _ _ _ _ _ _ _ _ _
   | exact ih2 _ _ _ _ _ _ _ _ _
   | exact impl_NewData.mono _ _
   | exact laws_eqData.mono _ _ _ _ _ _ _ _ _ _ _ _ _ _ _
   | exact laws_eqIntS.mono _ _ _
   | exact laws_heldData.mono _ _ _ _ _ _ _ _ _
   | exact laws_markData.mono _ _ _ _ _ _ _ _ _
   | exact laws_markIntS.mono _ _ _
   | exact laws_toIntS.mono _ _
   | exact spec_NewData.mono _ _
   | exact LeO.none _
   | refine LeO.ite ?_ ?_
   | refine LeO.bind ?_ (fun _ => ?_)
  ·
   intro y0 y1 y2 y3 y4 y5 y6 y7 y8
   unfold laws_FnExactNewData.j2
   repeat' first
   | (with_reducible exact ih0 _ _ _ _ _ _ _ _ _ _ _ _ _ _ _ _ _ _ _)
   | (with_reducible exact ih1 _ _ _ _ _ _ _ _ _ _ _ _ _ _ _ _ _)
   | (with_reducible exact ih2 _ _ _ _ _ _ _ _ _)
   | (with_reducible exact impl_NewData.mono _ _)
   | (with_reducible exact laws_eqData.mono _ _ _ _ _ _ _ _ _ _ _ _ _ _ _)
   | (with_reducible exact laws_eqIntS.mono _ _ _)
   | (with_reducible exact laws_heldData.mono _ _ _ _ _ _ _ _ _)
   | (with_reducible exact laws_markData.mono _ _ _ _ _ _ _ _ _)
   | (with_reducible exact laws_markIntS.mono _ _ _)
   | (with_reducible exact laws_toIntS.mono _ _)
   | (with_reducible exact spec_NewData.mono _ _)
   | (with_reducible exact LeO.refl _)
   | (with_reducible exact LeO.none _)
   | (with_reducible refine LeO.ite ?_ ?_)
   | (with_reducible refine LeO.bind ?_ (fun _ => ?_))
   | exact ih0 _ _ _ _ _ _ _ _ _ _ _ _ _ _ _ _ _ _ _
   | exact ih1 _ _ _ _ _ _ _ _ _ _ _ _ _ _ _ _ _
   | exact ih2 _ _ _ _ _ _ _ _ _
   | exact impl_NewData.mono _ _
   | exact laws_eqData.mono _ _ _ _ _ _ _ _ _ _ _ _ _ _ _
   | exact laws_eqIntS.mono _ _ _
   | exact laws_heldData.mono _ _ _ _ _ _ _ _ _
   | exact laws_markData.mono _ _ _ _ _ _ _ _ _
   | exact laws_markIntS.mono _ _ _
   | exact laws_toIntS.mono _ _
   | exact spec_NewData.mono _ _
   | exact LeO.none _
   | refine LeO.ite ?_ ?_
   | refine LeO.bind ?_ (fun _ => ?_)
theorem laws_FnExactNewData.mono : ∀ a0 k, LeO (laws_FnExactNewData.f k a0) (laws_FnExactNewData.f (k + 1) a0) := by
 intro a0 k
 obtain ⟨ih0, ih1, ih2⟩ := laws_FnExactNewData.mono_l k
 unfold laws_FnExactNewData.f
 repeat' first
   | (with_reducible exact ih0 _ _ _ _ _ _ _ _ _ _ _ _ _ _ _ _ _ _ _)
   | (with_reducible exact ih1 _ _ _ _ _ _ _ _ _ _ _ _ _ _ _ _ _)
   | (with_reducible exact ih2 _ _ _ _ _ _ _ _ _)
   | (with_reducible exact impl_NewData.mono _ _)
   | (with_reducible exact laws_eqData.mono _ _ _ _ _ _ _ _ _ _ _ _ _ _ _)
   | (with_reducible exact laws_eqIntS.mono _ _ _)
   | (with_reducible exact laws_heldData.mono _ _ _ _ _ _ _ _ _)
   | (with_reducible exact laws_markData.mono _ _ _ _ _ _ _ _ _)
   | (with_reducible exact laws_markIntS.mono _ _ _)
   | (with_reducible exact laws_toIntS.mono _ _)
   | (with_reducible exact spec_NewData.mono _ _)
   | (with_reducible exact LeO.refl _)
   | (with_reducible exact LeO.none _)
   | (with_reducible refine LeO.ite ?_ ?_)
   | (with_reducible refine LeO.bind ?_ (fun _ => ?_))
   | exact ih0 _ _ _ _ _ _ _ _ _ _ _ _ _ _ _ _ _ _ _
   | exact ih1 _ _ _ _ _ _ _ _ _ _ _ _ _ _ _ _ _
   | exact ih2 _ _ _ _ _ _ _ _ _
   | exact impl_NewData.mono _ _
   | exact laws_eqData.mono _ _ _ _ _ _ _ _ _ _ _ _ _ _ _
   | exact laws_eqIntS.mono _ _ _
   | exact laws_heldData.mono _ _ _ _ _ _ _ _ _
   | exact laws_markData.mono _ _ _ _ _ _ _ _ _
   | exact laws_markIntS.mono _ _ _
   | exact laws_toIntS.mono _ _
   | exact spec_NewData.mono _ _
   | exact LeO.none _
   | refine LeO.ite ?_ ?_
   | refine LeO.bind ?_ (fun _ => ?_)
set_option maxHeartbeats 8000000 in
set_option maxRecDepth 100000 in
theorem laws_FnExactNewData.calls (k : Nat) (A0 : Option Addr) (c0 : Nat) (l0 : List Int) (r : Bool) (w : World) (hr0 : Kd.C (Kd.int .i64) w A0 l0.length l0) (hc0 : l0.length ≤ c0) (h : laws_FnExactNewData.f k l0 = some r) (hlaw0 : r = true) :
  Calls Try.prog 4 #[.slice A0 l0.length c0] w fun e w' => e = .returned (.bool r) ∧ Below w.heap.size w w' := by
 have hu31 := Try.underlying31
 have HR0 := za hr0
 have HC0 := za hc0
 clear hr0 hc0
 have HB := za (Below.refl w.heap.size w)
 have hlaw_ := za hlaw0
 clear hlaw0
 have H : (if (l0.length : Int) > 1048576 then (some true) else ((laws_toIntS.f k l0).bind fun t240 => ((spec_NewData.f k t240).bind fun bt243 => ((laws_toIntS.f k l0).bind fun t264 => ((impl_NewData.f k t264).bind fun bt267 => ((laws_eqData.f k bt267.1 bt267.2.1 bt267.2.2.1 bt267.2.2.2.1 bt267.2.2.2.2.1 bt267.2.2.2.2.2.1 bt267.2.2.2.2.2.2.1 bt243.1 bt243.2.1 bt243.2.2.1 bt243.2.2.2.1 bt243.2.2.2.2.1 bt243.2.2.2.2.2.1 bt243.2.2.2.2.2.2.1).bind fun t288 => (if t288 = true then (laws_FnExactNewData.j0 k l0 bt243.2.2.2.2.2.2.2 t264 bt267.2.2.2.2.2.2.2 (bt267.2.2.2.2.2.2.2 != bt243.2.2.2.2.2.2.2) bt243.1 bt243.2.1 bt243.2.2.1 bt243.2.2.2.1 bt243.2.2.2.2.1 bt243.2.2.2.2.2.1 bt243.2.2.2.2.2.2.1 bt267.1 bt267.2.1 bt267.2.2.1 bt267.2.2.2.1 bt267.2.2.2.2.1 bt267.2.2.2.2.2.1 bt267.2.2.2.2.2.2.1) else (laws_FnExactNewData.j0 k l0 bt243.2.2.2.2.2.2.2 t264 bt267.2.2.2.2.2.2.2 true bt243.1 bt243.2.1 bt243.2.2.1 bt243.2.2.2.1 bt243.2.2.2.2.1 bt243.2.2.2.2.2.1 bt243.2.2.2.2.2.2.1 bt267.1 bt267.2.1 bt267.2.2.1 bt267.2.2.2.1 bt267.2.2.2.2.1 bt267.2.2.2.2.2.1 bt267.2.2.2.2.2.2.1)))))))) = some r := h
 clear h
 by_cases c2 : (l0.length : Int) > 1048576
 ·
  rw [if_pos c2] at H
  have c2b0 : decide (1048576 < (l0.length : Int)) = true := decide_eq_true c2
  have c2b1 : decide (1048576 < l0.length) = true := decide_eq_true (by omega)
  clear c2
  obtain rfl := Option.some.inj H
  go_enter Try.func4, Try.ntmps4
  go_wp2
  go_ret
  exact ⟨by first | rfl | (simp [errW_none, errW_some] <;> rfl) | (simp [*, errW_none, errW_some] <;> rfl), by repeat (first | (with_reducible first | exact HB.out | apply zs | apply zD | apply zt) | exact HB.out)⟩
 ·
  rw [if_neg c2] at H
  have c2b0 : decide (1048576 < (l0.length : Int)) = false := decide_eq_false c2
  have c2b1 : decide (1048576 < l0.length) = false := decide_eq_false (by omega)
  clear c2
  replace H := Option.bind_eq_some_iff.mp H
  obtain ⟨t240, A30, H⟩ := H
  replace H : ((spec_NewData.f k t240).bind fun bt243 => ((laws_toIntS.f k l0).bind fun t264 => ((impl_NewData.f k t264).bind fun bt267 => ((laws_eqData.f k bt267.1 bt267.2.1 bt267.2.2.1 bt267.2.2.2.1 bt267.2.2.2.2.1 bt267.2.2.2.2.2.1 bt267.2.2.2.2.2.2.1 bt243.1 bt243.2.1 bt243.2.2.1 bt243.2.2.2.1 bt243.2.2.2.2.1 bt243.2.2.2.2.2.1 bt243.2.2.2.2.2.2.1).bind fun t288 => (if t288 = true then (laws_FnExactNewData.j0 k l0 bt243.2.2.2.2.2.2.2 t264 bt267.2.2.2.2.2.2.2 (bt267.2.2.2.2.2.2.2 != bt243.2.2.2.2.2.2.2) bt243.1 bt243.2.1 bt243.2.2.1 bt243.2.2.2.1 bt243.2.2.2.2.1 bt243.2.2.2.2.2.1 bt243.2.2.2.2.2.2.1 bt267.1 bt267.2.1 bt267.2.2.1 bt267.2.2.2.1 bt267.2.2.2.2.1 bt267.2.2.2.2.2.1 bt267.2.2.2.2.2.2.1) else (laws_FnExactNewData.j0 k l0 bt243.2.2.2.2.2.2.2 t264 bt267.2.2.2.2.2.2.2 true bt243.1 bt243.2.1 bt243.2.2.1 bt243.2.2.2.1 bt243.2.2.2.2.1 bt243.2.2.2.2.2.1 bt243.2.2.2.2.2.2.1 bt267.1 bt267.2.1 bt267.2.2.1 bt267.2.2.2.1 bt267.2.2.2.2.1 bt267.2.2.2.2.2.1 bt267.2.2.2.2.2.2.1)))))) = some r := H
  have A3 := za A30
  clear A30
  replace H := Option.bind_eq_some_iff.mp H
  obtain ⟨⟨t243, t246, t249, t252, t255, t258, t261, t262⟩, A40, H⟩ := H
  replace H : ((laws_toIntS.f k l0).bind fun t264 => ((impl_NewData.f k t264).bind fun bt267 => ((laws_eqData.f k bt267.1 bt267.2.1 bt267.2.2.1 bt267.2.2.2.1 bt267.2.2.2.2.1 bt267.2.2.2.2.2.1 bt267.2.2.2.2.2.2.1 t243 t246 t249 t252 t255 t258 t261).bind fun t288 => (if t288 = true then (laws_FnExactNewData.j0 k l0 t262 t264 bt267.2.2.2.2.2.2.2 (bt267.2.2.2.2.2.2.2 != t262) t243 t246 t249 t252 t255 t258 t261 bt267.1 bt267.2.1 bt267.2.2.1 bt267.2.2.2.1 bt267.2.2.2.2.1 bt267.2.2.2.2.2.1 bt267.2.2.2.2.2.2.1) else (laws_FnExactNewData.j0 k l0 t262 t264 bt267.2.2.2.2.2.2.2 true t243 t246 t249 t252 t255 t258 t261 bt267.1 bt267.2.1 bt267.2.2.1 bt267.2.2.2.1 bt267.2.2.2.2.1 bt267.2.2.2.2.2.1 bt267.2.2.2.2.2.2.1))))) = some r := H
  have A4 := za A40
  clear A40
  replace H := Option.bind_eq_some_iff.mp H
  obtain ⟨t264, A50, H⟩ := H
  replace H : ((impl_NewData.f k t264).bind fun bt267 => ((laws_eqData.f k bt267.1 bt267.2.1 bt267.2.2.1 bt267.2.2.2.1 bt267.2.2.2.2.1 bt267.2.2.2.2.2.1 bt267.2.2.2.2.2.2.1 t243 t246 t249 t252 t255 t258 t261).bind fun t288 => (if t288 = true then (laws_FnExactNewData.j0 k l0 t262 t264 bt267.2.2.2.2.2.2.2 (bt267.2.2.2.2.2.2.2 != t262) t243 t246 t249 t252 t255 t258 t261 bt267.1 bt267.2.1 bt267.2.2.1 bt267.2.2.2.1 bt267.2.2.2.2.1 bt267.2.2.2.2.2.1 bt267.2.2.2.2.2.2.1) else (laws_FnExactNewData.j0 k l0 t262 t264 bt267.2.2.2.2.2.2.2 true t243 t246 t249 t252 t255 t258 t261 bt267.1 bt267.2.1 bt267.2.2.1 bt267.2.2.2.1 bt267.2.2.2.2.1 bt267.2.2.2.2.2.1 bt267.2.2.2.2.2.2.1)))) = some r := H
  have A5 := za A50
  clear A50
  replace H := Option.bind_eq_some_iff.mp H
  obtain ⟨⟨t267, t270, t273, t276, t279, t282, t285, t286⟩, A60, H⟩ := H
  replace H : ((laws_eqData.f k t267 t270 t273 t276 t279 t282 t285 t243 t246 t249 t252 t255 t258 t261).bind fun t288 => (if t288 = true then (laws_FnExactNewData.j0 k l0 t262 t264 t286 (t286 != t262) t243 t246 t249 t252 t255 t258 t261 t267 t270 t273 t276 t279 t282 t285) else (laws_FnExactNewData.j0 k l0 t262 t264 t286 true t243 t246 t249 t252 t255 t258 t261 t267 t270 t273 t276 t279 t282 t285))) = some r := H
  have A6 := za A60
  clear A60
  have HC7 := za H
  clear H
  go_enter Try.func4, Try.ntmps4
  go_upto_region 6 with (first | ((with_reducible refine gate_callee (f := 17) rfl ?_); refine goesL_ (some 18) rfl rfl Try.func17 (by kernel_rfl) rfl #[.slice A0 l0.length c0] rfl (by (try simp only [List.map_toArray, List.map_cons, List.map_nil]); first | done | rfl | (simp only [List.length_drop, List.length_take]; rfl)) ?_; (with_reducible refine (laws_toIntS.calls k _ _ l0 t240 _ ?side1 ?side2 A3.out).mono ?_); (case side1 => repeat (first | exact HR0.out | (with_reducible refine zb ?_ _) | (with_reducible refine zd ?_ _) | (with_reducible refine zc ?_))); (case side2 => exact HC0.out); rintro e w8 ⟨v241, rfl, ho0, hb⟩; refine ⟨_, rfl, ?_⟩; have n0_ := za (zk ho0 (zv (by repeat (first | (with_reducible first | exact HB.out | apply zs | apply zD | apply zt) | exact HB.out)))); have n1_ := za (below_step (by repeat (first | (with_reducible first | exact HB.out | apply zs | apply zD | apply zt) | exact HB.out)) hb); clear HB; have HO242 := n0_; have HB := n1_; clear n0_ n1_; (try clear hb); (try clear hb2); (try clear hk); (try clear hi); (try clear ho0); obtain ⟨Ao9, co9, eo9⟩ := zp HO242.out; subst eo9) | ((with_reducible refine gate_callee (f := 16) rfl ?_); refine goesL_ (some 19) rfl rfl Try.func16 (by kernel_rfl) rfl #[.slice Ao9 t240.length co9] rfl (by (try simp only [List.map_toArray, List.map_cons, List.map_nil]); first | done | rfl | (simp only [List.length_drop, List.length_take]; rfl)) ?_; (with_reducible refine (spec_NewData.calls k _ _ t240 t243 t246 t249 t252 t255 t258 t261 t262 _ ?side1 ?side2 A4.out).mono ?_); (case side1 => repeat (first | exact (zo HO242.out).2.2 | (with_reducible refine zb ?_ _) | (with_reducible refine zd ?_ _) | (with_reducible refine zc ?_))); (case side2 => exact (zo HO242.out).2.1); rintro e w10 ⟨v244, v247, v250, v253, v256, v259, rfl, ho0, ho1, ho2, ho3, ho4, ho5, hb⟩; refine ⟨_, rfl, ?_⟩; have n0_ := za (Kd.R_elder' (by (with_reducible repeat (first | apply ze | apply zj | apply zi)); exact HO242.out) (zg ho0) hb); have n1_ := za (zk (zn ho0 (zl (by (with_reducible repeat (first | apply ze | apply zj | apply zi)); exact HO242.out))) (zv (by repeat (first | (with_reducible first | exact HB.out | apply zs | apply zD | apply zt) | exact HB.out)))); have n2_ := za (zk ho1 (zv (by repeat (first | (with_reducible first | exact HB.out | apply zs | apply zD | apply zt) | exact HB.out)))); have n3_ := za (zk ho2 (zv (by repeat (first | (with_reducible first | exact HB.out | apply zs | apply zD | apply zt) | exact HB.out)))); have n4_ := za (zk ho3 (zv (by repeat (first | (with_reducible first | exact HB.out | apply zs | apply zD | apply zt) | exact HB.out)))); have n5_ := za (zk ho4 (zv (by repeat (first | (with_reducible first | exact HB.out | apply zs | apply zD | apply zt) | exact HB.out)))); have n6_ := za (zk ho5 (zv (by repeat (first | (with_reducible first | exact HB.out | apply zs | apply zD | apply zt) | exact HB.out)))); have n7_ := za (below_step (by repeat (first | (with_reducible first | exact HB.out | apply zs | apply zD | apply zt) | exact HB.out)) hb); clear HO242; clear HB; have HO242 := n0_; have HO245 := n1_; have HO248 := n2_; have HO251 := n3_; have HO254 := n4_; have HO257 := n5_; have HO260 := n6_; have HB := n7_; clear n0_ n1_ n2_ n3_ n4_ n5_ n6_ n7_; (try clear hb); (try clear hb2); (try clear hk); (try clear hi); (try clear ho0); (try clear ho1); (try clear ho2); (try clear ho3); (try clear ho4); (try clear ho5)) | ((with_reducible refine gate_dst (N := 3) rfl ?_); refine box_event ?hg (N := 3) ?hd (cs := #[.slice none 0 0, .slice none 0 0, .slice none 0 0, .slice none 0 0, .slice none 0 0, .slice none 0 0, .int .i64 0]) (t := 31) ?hr ?_; (case hd => rfl); (case hg => rfl); (case hr => first | (go_simp; done) | (go_simp; rfl)); intro gb263 hg w11 hbox hb; have n0_ := za (zh (by (with_reducible repeat (first | apply ze | apply zj | apply zi)); exact HO242.out) hb); have n1_ := za (zh (by (with_reducible repeat (first | apply ze | apply zj | apply zi)); exact HO245.out) hb); have n2_ := za (zh (by (with_reducible repeat (first | apply ze | apply zj | apply zi)); exact HO248.out) hb); have n3_ := za (zh (by (with_reducible repeat (first | apply ze | apply zj | apply zi)); exact HO251.out) hb); have n4_ := za (zh (by (with_reducible repeat (first | apply ze | apply zj | apply zi)); exact HO254.out) hb); have n5_ := za (zh (by (with_reducible repeat (first | apply ze | apply zj | apply zi)); exact HO257.out) hb); have n6_ := za (zh (by (with_reducible repeat (first | apply ze | apply zj | apply zi)); exact HO260.out) hb); have n7_ := za (below_step (by repeat (first | (with_reducible first | exact HB.out | apply zs | apply zD | apply zt) | exact HB.out)) hb); have n8_ := za (hbox); have n9_ := za ((by rw [hg]; exact (zv (by repeat (first | (with_reducible first | exact HB.out | apply zs | apply zD | apply zt) | exact HB.out))) : w.heap.size ≤ gb263)); have n10_ := za ((by rw [hg]; exact (zv (by repeat (first | (with_reducible first | exact HB.out | apply zs | apply zD | apply zt) | exact HB.out))) : w.heap.size ≤ gb263)); clear HO242; clear HO245; clear HO248; clear HO251; clear HO254; clear HO257; clear HO260; clear HB; have HO242 := n0_; have HO245 := n1_; have HO248 := n2_; have HO251 := n3_; have HO254 := n4_; have HO257 := n5_; have HO260 := n6_; have HB := n7_; have BK263 := n8_; have GW263 := n9_; have GE263 := n10_; clear n0_ n1_ n2_ n3_ n4_ n5_ n6_ n7_ n8_ n9_ n10_; clear hb hbox hg; obtain ⟨Ao12, co12, eo12⟩ := zp HO245.out; subst eo12; have hcz13_0 : w11.cell? ⟨gb263, 0, none⟩ = some (.slice none 0 0) := (zy BK263.out 0).trans rfl; have hcz13_1 : w11.cell? ⟨gb263, 1, none⟩ = some (.slice none 0 0) := (zy BK263.out 1).trans rfl; have hcz13_2 : w11.cell? ⟨gb263, 2, none⟩ = some (.slice none 0 0) := (zy BK263.out 2).trans rfl; have hcz13_3 : w11.cell? ⟨gb263, 3, none⟩ = some (.slice none 0 0) := (zy BK263.out 3).trans rfl; have hcz13_4 : w11.cell? ⟨gb263, 4, none⟩ = some (.slice none 0 0) := (zy BK263.out 4).trans rfl; have hcz13_5 : w11.cell? ⟨gb263, 5, none⟩ = some (.slice none 0 0) := (zy BK263.out 5).trans rfl; have hcz13_6 : w11.cell? ⟨gb263, 6, none⟩ = some (.int .i64 0) := (zy BK263.out 6).trans rfl; have hfz13_0 := zC BK263.out 0; have hfz13_1 := zC BK263.out 1; have hfz13_2 := zC BK263.out 2; have hfz13_3 := zC BK263.out 3; have hfz13_4 := zC BK263.out 4; have hfz13_5 := zC BK263.out 5; have hfz13_6 := zC BK263.out 6; obtain ⟨Ao14, co14, eo14⟩ := zp HO248.out; subst eo14; obtain ⟨Ao15, co15, eo15⟩ := zp HO251.out; subst eo15; obtain ⟨Ao16, co16, eo16⟩ := zp HO254.out; subst eo16; obtain ⟨Ao17, co17, eo17⟩ := zp HO257.out; subst eo17; obtain ⟨Ao18, co18, eo18⟩ := zp HO260.out; subst eo18) | ((with_reducible refine gate_callee (f := 17) rfl ?_); refine goesL_ (some 23) rfl rfl Try.func17 (by kernel_rfl) rfl #[.slice A0 l0.length c0] rfl (by (try simp only [List.map_toArray, List.map_cons, List.map_nil]); first | done | rfl | (simp only [List.length_drop, List.length_take]; rfl)) ?_; (with_reducible refine (laws_toIntS.calls k _ _ l0 t264 _ ?side1 ?side2 A5.out).mono ?_); (case side1 => exact Kd.C_below HR0.out (by repeat (first | (with_reducible first | exact HB.out | apply zs | apply zD | apply zt | refine zu ?_ GE263.out) | exact HB.out))); (case side2 => exact HC0.out); rintro e w19 ⟨v265, rfl, ho0, hb⟩; refine ⟨_, rfl, ?_⟩; have n0_ := za (Kd.R_elder' (by (with_reducible repeat (first | apply ze | apply zj | apply zi)); exact (zm (Kd_R_far7 HO242.out BK263.out (by decide)) (fun _ h_ => h_.1))) (zg ho0) hb); have n1_ := za (Kd.R_elder' (by (with_reducible repeat (first | apply ze | apply zj | apply zi)); exact (zm (Kd_R_far7 HO245.out BK263.out (by decide)) (fun _ h_ => h_.1))) (zg ho0) hb); have n2_ := za (zh (by (with_reducible repeat (first | apply ze | apply zj | apply zi)); exact (zm (Kd_R_far7 HO248.out BK263.out (by decide)) (fun _ h_ => h_.1))) hb); have n3_ := za (zh (by (with_reducible repeat (first | apply ze | apply zj | apply zi)); exact (zm (Kd_R_far7 HO251.out BK263.out (by decide)) (fun _ h_ => h_.1))) hb); have n4_ := za (zh (by (with_reducible repeat (first | apply ze | apply zj | apply zi)); exact (zm (Kd_R_far7 HO254.out BK263.out (by decide)) (fun _ h_ => h_.1))) hb); have n5_ := za (zh (by (with_reducible repeat (first | apply ze | apply zj | apply zi)); exact (zm (Kd_R_far7 HO257.out BK263.out (by decide)) (fun _ h_ => h_.1))) hb); have n6_ := za (zh (by (with_reducible repeat (first | apply ze | apply zj | apply zi)); exact (zm (Kd_R_far7 HO260.out BK263.out (by decide)) (fun _ h_ => h_.1))) hb); have n7_ := za (zk (zn (zn ho0 (zl (by (with_reducible repeat (first | apply ze | apply zj | apply zi)); exact (zm (Kd_R_far7 HO242.out BK263.out (by decide)) (fun _ h_ => h_.1))))) (zl (by (with_reducible repeat (first | apply ze | apply zj | apply zi)); exact (zm (Kd_R_far7 HO245.out BK263.out (by decide)) (fun _ h_ => h_.1))))) (zv (by repeat (first | (with_reducible first | exact HB.out | apply zs | apply zD | apply zt | refine zu ?_ GE263.out) | exact HB.out)))); have n8_ := za (zx (g := gb263) (o := .cells #[.slice Ao12 t243.length co12, .slice Ao14 t246.length co14, .slice Ao15 t249.length co15, .slice Ao16 t252.length co16, .slice Ao17 t255.length co17, .slice Ao18 t258.length co18, .int .i64 t261] 31 (0, 0)) (by (with_reducible repeat (first | refine zA ?_ _ | refine zz ?_ | refine zw ?_ _)); refine blk_put (cs := #[.slice Ao12 t243.length co12, .slice Ao14 t246.length co14, .slice Ao15 t249.length co15, .slice Ao16 t252.length co16, .slice Ao17 t255.length co17, .slice Ao18 t258.length co18, .int .i64 0]) ?_ 6 _ rfl; (with_reducible repeat (first | refine zA ?_ _ | refine zz ?_ | refine zw ?_ _)); refine blk_put (cs := #[.slice Ao12 t243.length co12, .slice Ao14 t246.length co14, .slice Ao15 t249.length co15, .slice Ao16 t252.length co16, .slice Ao17 t255.length co17, .slice none 0 0, .int .i64 0]) ?_ 5 _ rfl; (with_reducible repeat (first | refine zA ?_ _ | refine zz ?_ | refine zw ?_ _)); refine blk_put (cs := #[.slice Ao12 t243.length co12, .slice Ao14 t246.length co14, .slice Ao15 t249.length co15, .slice Ao16 t252.length co16, .slice none 0 0, .slice none 0 0, .int .i64 0]) ?_ 4 _ rfl; (with_reducible repeat (first | refine zA ?_ _ | refine zz ?_ | refine zw ?_ _)); refine blk_put (cs := #[.slice Ao12 t243.length co12, .slice Ao14 t246.length co14, .slice Ao15 t249.length co15, .slice none 0 0, .slice none 0 0, .slice none 0 0, .int .i64 0]) ?_ 3 _ rfl; (with_reducible repeat (first | refine zA ?_ _ | refine zz ?_ | refine zw ?_ _)); refine blk_put (cs := #[.slice Ao12 t243.length co12, .slice Ao14 t246.length co14, .slice none 0 0, .slice none 0 0, .slice none 0 0, .slice none 0 0, .int .i64 0]) ?_ 2 _ rfl; (with_reducible repeat (first | refine zA ?_ _ | refine zz ?_ | refine zw ?_ _)); refine blk_put (cs := #[.slice Ao12 t243.length co12, .slice none 0 0, .slice none 0 0, .slice none 0 0, .slice none 0 0, .slice none 0 0, .int .i64 0]) ?_ 1 _ rfl; (with_reducible repeat (first | refine zA ?_ _ | refine zz ?_ | refine zw ?_ _)); refine blk_put (cs := #[.slice none 0 0, .slice none 0 0, .slice none 0 0, .slice none 0 0, .slice none 0 0, .slice none 0 0, .int .i64 0]) ?_ 0 _ rfl; (with_reducible repeat (first | refine zA ?_ _ | refine zz ?_ | refine zw ?_ _)); exact BK263.out) hb); have n9_ := za (below_step (by repeat (first | (with_reducible first | exact HB.out | apply zs | apply zD | apply zt | refine zu ?_ GE263.out) | exact HB.out)) hb); clear HO242; clear HO245; clear HO248; clear HO251; clear HO254; clear HO257; clear HO260; clear BK263; clear HB; have HO242 := n0_; have HO245 := n1_; have HO248 := n2_; have HO251 := n3_; have HO254 := n4_; have HO257 := n5_; have HO260 := n6_; have HO266 := n7_; have BK263 := n8_; have HB := n9_; clear n0_ n1_ n2_ n3_ n4_ n5_ n6_ n7_ n8_ n9_; (try clear hb); (try clear hb2); (try clear hk); (try clear hi); (try clear ho0); obtain ⟨Ao20, co20, eo20⟩ := zp HO266.out; subst eo20) | ((with_reducible refine gate_callee (f := 18) rfl ?_); refine goesL_ (some 26) rfl rfl Try.func18 (by kernel_rfl) rfl #[.slice Ao20 t264.length co20] rfl (by (try simp only [List.map_toArray, List.map_cons, List.map_nil]); first | done | rfl | (simp only [List.length_drop, List.length_take]; rfl)) ?_; (with_reducible refine (impl_NewData.calls k _ _ t264 t267 t270 t273 t276 t279 t282 t285 t286 _ ?side1 ?side2 A6.out).mono ?_); (case side1 => repeat (first | exact (zo HO266.out).2.2 | (with_reducible refine zb ?_ _) | (with_reducible refine zd ?_ _) | (with_reducible refine zc ?_))); (case side2 => exact (zo HO266.out).2.1); rintro e w21 ⟨v268, v271, v274, v277, v280, v283, rfl, ho0, ho1, ho2, ho3, ho4, ho5, hb⟩; refine ⟨_, rfl, ?_⟩; have n0_ := za (Kd.R_elder' (by (with_reducible repeat (first | apply ze | apply zj | apply zi)); exact HO242.out) (zg ho0) hb); have n1_ := za (Kd.R_elder' (by (with_reducible repeat (first | apply ze | apply zj | apply zi)); exact HO245.out) (zg ho0) hb); have n2_ := za (Kd.R_elder' (by (with_reducible repeat (first | apply ze | apply zj | apply zi)); exact HO248.out) (zg ho1) hb); have n3_ := za (zm (zq (zq (zq (zq (Kd.R_old (by (with_reducible repeat (first | apply ze | apply zj | apply zi)); exact HO251.out) hb) (zg ho2)) (zg ho3)) (zg ho4)) (zg ho5)) (fun _ h_ => h_.1)); have n4_ := za (zm (zq (zq (zq (zq (Kd.R_old (by (with_reducible repeat (first | apply ze | apply zj | apply zi)); exact HO254.out) hb) (zg ho2)) (zg ho3)) (zg ho4)) (zg ho5)) (fun _ h_ => h_.1)); have n5_ := za (zm (zq (zq (zq (zq (Kd.R_old (by (with_reducible repeat (first | apply ze | apply zj | apply zi)); exact HO257.out) hb) (zg ho2)) (zg ho3)) (zg ho4)) (zg ho5)) (fun _ h_ => h_.1)); have n6_ := za (zm (zq (zq (zq (zq (Kd.R_old (by (with_reducible repeat (first | apply ze | apply zj | apply zi)); exact HO260.out) hb) (zg ho2)) (zg ho3)) (zg ho4)) (zg ho5)) (fun _ h_ => h_.1)); have n7_ := za (Kd.R_elder' (by (with_reducible repeat (first | apply ze | apply zj | apply zi)); exact HO266.out) (zg ho0) hb); have n8_ := za (zk (zn (zn (zn ho0 (zl (by (with_reducible repeat (first | apply ze | apply zj | apply zi)); exact HO242.out))) (zl (by (with_reducible repeat (first | apply ze | apply zj | apply zi)); exact HO245.out))) (zl (by (with_reducible repeat (first | apply ze | apply zj | apply zi)); exact HO266.out))) (zv (by repeat (first | (with_reducible first | exact HB.out | apply zs | apply zD | apply zt | refine zu ?_ GE263.out) | exact HB.out)))); have n9_ := za (zk (zn ho1 (zl (by (with_reducible repeat (first | apply ze | apply zj | apply zi)); exact HO248.out))) (zv (by repeat (first | (with_reducible first | exact HB.out | apply zs | apply zD | apply zt | refine zu ?_ GE263.out) | exact HB.out)))); have n10_ := za (zk (zn (zn (zn (zn ho2 (zl (by (with_reducible repeat (first | apply ze | apply zj | apply zi)); exact HO251.out))) (zl (by (with_reducible repeat (first | apply ze | apply zj | apply zi)); exact HO254.out))) (zl (by (with_reducible repeat (first | apply ze | apply zj | apply zi)); exact HO257.out))) (zl (by (with_reducible repeat (first | apply ze | apply zj | apply zi)); exact HO260.out))) (zv (by repeat (first | (with_reducible first | exact HB.out | apply zs | apply zD | apply zt | refine zu ?_ GE263.out) | exact HB.out)))); have n11_ := za (zk (zn (zn (zn (zn ho3 (zl (by (with_reducible repeat (first | apply ze | apply zj | apply zi)); exact HO251.out))) (zl (by (with_reducible repeat (first | apply ze | apply zj | apply zi)); exact HO254.out))) (zl (by (with_reducible repeat (first | apply ze | apply zj | apply zi)); exact HO257.out))) (zl (by (with_reducible repeat (first | apply ze | apply zj | apply zi)); exact HO260.out))) (zv (by repeat (first | (with_reducible first | exact HB.out | apply zs | apply zD | apply zt | refine zu ?_ GE263.out) | exact HB.out)))); have n12_ := za (zk (zn (zn (zn (zn ho4 (zl (by (with_reducible repeat (first | apply ze | apply zj | apply zi)); exact HO251.out))) (zl (by (with_reducible repeat (first | apply ze | apply zj | apply zi)); exact HO254.out))) (zl (by (with_reducible repeat (first | apply ze | apply zj | apply zi)); exact HO257.out))) (zl (by (with_reducible repeat (first | apply ze | apply zj | apply zi)); exact HO260.out))) (zv (by repeat (first | (with_reducible first | exact HB.out | apply zs | apply zD | apply zt | refine zu ?_ GE263.out) | exact HB.out)))); have n13_ := za (zk (zn (zn (zn (zn ho5 (zl (by (with_reducible repeat (first | apply ze | apply zj | apply zi)); exact HO251.out))) (zl (by (with_reducible repeat (first | apply ze | apply zj | apply zi)); exact HO254.out))) (zl (by (with_reducible repeat (first | apply ze | apply zj | apply zi)); exact HO257.out))) (zl (by (with_reducible repeat (first | apply ze | apply zj | apply zi)); exact HO260.out))) (zv (by repeat (first | (with_reducible first | exact HB.out | apply zs | apply zD | apply zt | refine zu ?_ GE263.out) | exact HB.out)))); have n14_ := za (zx (g := gb263) (o := .cells #[.slice Ao12 t243.length co12, .slice Ao14 t246.length co14, .slice Ao15 t249.length co15, .slice Ao16 t252.length co16, .slice Ao17 t255.length co17, .slice Ao18 t258.length co18, .int .i64 t261] 31 (0, 0)) (by (with_reducible repeat (first | refine zA ?_ _ | refine zz ?_ | refine zw ?_ _)); exact BK263.out) hb); have n15_ := za (below_step (by repeat (first | (with_reducible first | exact HB.out | apply zs | apply zD | apply zt | refine zu ?_ GE263.out) | exact HB.out)) hb); clear HO242; clear HO245; clear HO248; clear HO251; clear HO254; clear HO257; clear HO260; clear HO266; clear BK263; clear HB; have HO242 := n0_; have HO245 := n1_; have HO248 := n2_; have HO251 := n3_; have HO254 := n4_; have HO257 := n5_; have HO260 := n6_; have HO266 := n7_; have HO269 := n8_; have HO272 := n9_; have HO275 := n10_; have HO278 := n11_; have HO281 := n12_; have HO284 := n13_; have BK263 := n14_; have HB := n15_; clear n0_ n1_ n2_ n3_ n4_ n5_ n6_ n7_ n8_ n9_ n10_ n11_ n12_ n13_ n14_ n15_; (try clear hb); (try clear hb2); (try clear hk); (try clear hi); (try clear ho0); (try clear ho1); (try clear ho2); (try clear ho3); (try clear ho4); (try clear ho5)) | ((with_reducible refine gate_dst (N := 6) rfl ?_); refine box_event ?hg (N := 6) ?hd (cs := #[.slice none 0 0, .slice none 0 0, .slice none 0 0, .slice none 0 0, .slice none 0 0, .slice none 0 0, .int .i64 0]) (t := 31) ?hr ?_; (case hd => rfl); (case hg => rfl); (case hr => first | (go_simp; done) | (go_simp; rfl)); intro gb287 hg w22 hbox hb; have n0_ := za (zh (by (with_reducible repeat (first | apply ze | apply zj | apply zi)); exact HO242.out) hb); have n1_ := za (zh (by (with_reducible repeat (first | apply ze | apply zj | apply zi)); exact HO245.out) hb); have n2_ := za (zh (by (with_reducible repeat (first | apply ze | apply zj | apply zi)); exact HO248.out) hb); have n3_ := za (zh (by (with_reducible repeat (first | apply ze | apply zj | apply zi)); exact HO251.out) hb); have n4_ := za (zh (by (with_reducible repeat (first | apply ze | apply zj | apply zi)); exact HO254.out) hb); have n5_ := za (zh (by (with_reducible repeat (first | apply ze | apply zj | apply zi)); exact HO257.out) hb); have n6_ := za (zh (by (with_reducible repeat (first | apply ze | apply zj | apply zi)); exact HO260.out) hb); have n7_ := za (zh (by (with_reducible repeat (first | apply ze | apply zj | apply zi)); exact HO266.out) hb); have n8_ := za (zh (by (with_reducible repeat (first | apply ze | apply zj | apply zi)); exact HO269.out) hb); have n9_ := za (zh (by (with_reducible repeat (first | apply ze | apply zj | apply zi)); exact HO272.out) hb); have n10_ := za (zh (by (with_reducible repeat (first | apply ze | apply zj | apply zi)); exact HO275.out) hb); have n11_ := za (zh (by (with_reducible repeat (first | apply ze | apply zj | apply zi)); exact HO278.out) hb); have n12_ := za (zh (by (with_reducible repeat (first | apply ze | apply zj | apply zi)); exact HO281.out) hb); have n13_ := za (zh (by (with_reducible repeat (first | apply ze | apply zj | apply zi)); exact HO284.out) hb); have n14_ := za (zx (g := gb263) (o := .cells #[.slice Ao12 t243.length co12, .slice Ao14 t246.length co14, .slice Ao15 t249.length co15, .slice Ao16 t252.length co16, .slice Ao17 t255.length co17, .slice Ao18 t258.length co18, .int .i64 t261] 31 (0, 0)) (by (with_reducible repeat (first | refine zA ?_ _ | refine zz ?_ | refine zw ?_ _)); exact BK263.out) hb); have n15_ := za (below_step (by repeat (first | (with_reducible first | exact HB.out | apply zs | apply zD | apply zt | refine zu ?_ GE263.out) | exact HB.out)) hb); have n16_ := za (hbox); have n17_ := za ((by rw [hg]; exact (zv (by repeat (first | (with_reducible first | exact HB.out | apply zs | apply zD | apply zt | refine zu ?_ GE263.out) | exact HB.out))) : w.heap.size ≤ gb287)); have n18_ := za ((by rw [hg]; exact (zv (by repeat (first | (with_reducible first | exact HB.out | apply zs | apply zD | apply zt | refine zu ?_ GE263.out) | exact HB.out))) : w.heap.size ≤ gb287)); have n19_ := za ((by rw [hg]; exact Nat.ne_of_lt (blk_lt (g := gb263) (o := .cells #[.slice Ao12 t243.length co12, .slice Ao14 t246.length co14, .slice Ao15 t249.length co15, .slice Ao16 t252.length co16, .slice Ao17 t255.length co17, .slice Ao18 t258.length co18, .int .i64 t261] 31 (0, 0)) (by (with_reducible repeat (first | refine zA ?_ _ | refine zz ?_ | refine zw ?_ _)); exact BK263.out)) : gb263 ≠ gb287)); have n20_ := za ((by rw [hg]; exact Nat.ne_of_gt (blk_lt (g := gb263) (o := .cells #[.slice Ao12 t243.length co12, .slice Ao14 t246.length co14, .slice Ao15 t249.length co15, .slice Ao16 t252.length co16, .slice Ao17 t255.length co17, .slice Ao18 t258.length co18, .int .i64 t261] 31 (0, 0)) (by (with_reducible repeat (first | refine zA ?_ _ | refine zz ?_ | refine zw ?_ _)); exact BK263.out)) : gb287 ≠ gb263)); clear HO242; clear HO245; clear HO248; clear HO251; clear HO254; clear HO257; clear HO260; clear HO266; clear HO269; clear HO272; clear HO275; clear HO278; clear HO281; clear HO284; clear BK263; clear HB; have HO242 := n0_; have HO245 := n1_; have HO248 := n2_; have HO251 := n3_; have HO254 := n4_; have HO257 := n5_; have HO260 := n6_; have HO266 := n7_; have HO269 := n8_; have HO272 := n9_; have HO275 := n10_; have HO278 := n11_; have HO281 := n12_; have HO284 := n13_; have BK263 := n14_; have HB := n15_; have BK287 := n16_; have GW287 := n17_; have GE287 := n18_; have NB263_287 := n19_; have NB287_263 := n20_; clear n0_ n1_ n2_ n3_ n4_ n5_ n6_ n7_ n8_ n9_ n10_ n11_ n12_ n13_ n14_ n15_ n16_ n17_ n18_ n19_ n20_; clear hb hbox hg; obtain ⟨Ao23, co23, eo23⟩ := zp HO269.out; subst eo23; have hnb24 := NB287_263.out; have hnc24 := NB263_287.out; have hcz25_0 : w22.cell? ⟨gb287, 0, none⟩ = some (.slice none 0 0) := (zy BK287.out 0).trans rfl; have hcz25_1 : w22.cell? ⟨gb287, 1, none⟩ = some (.slice none 0 0) := (zy BK287.out 1).trans rfl; have hcz25_2 : w22.cell? ⟨gb287, 2, none⟩ = some (.slice none 0 0) := (zy BK287.out 2).trans rfl; have hcz25_3 : w22.cell? ⟨gb287, 3, none⟩ = some (.slice none 0 0) := (zy BK287.out 3).trans rfl; have hcz25_4 : w22.cell? ⟨gb287, 4, none⟩ = some (.slice none 0 0) := (zy BK287.out 4).trans rfl; have hcz25_5 : w22.cell? ⟨gb287, 5, none⟩ = some (.slice none 0 0) := (zy BK287.out 5).trans rfl; have hcz25_6 : w22.cell? ⟨gb287, 6, none⟩ = some (.int .i64 0) := (zy BK287.out 6).trans rfl; have hfz25_0 := zC BK287.out 0; have hfz25_1 := zC BK287.out 1; have hfz25_2 := zC BK287.out 2; have hfz25_3 := zC BK287.out 3; have hfz25_4 := zC BK287.out 4; have hfz25_5 := zC BK287.out 5; have hfz25_6 := zC BK287.out 6; obtain ⟨Ao26, co26, eo26⟩ := zp HO272.out; subst eo26; obtain ⟨Ao27, co27, eo27⟩ := zp HO275.out; subst eo27; obtain ⟨Ao28, co28, eo28⟩ := zp HO278.out; subst eo28; obtain ⟨Ao29, co29, eo29⟩ := zp HO281.out; subst eo29; obtain ⟨Ao30, co30, eo30⟩ := zp HO284.out; subst eo30))
  (try simp only [Act.put, List.setIfInBounds_toArray, List.set_cons_zero, List.set_cons_succ])
  go_cut [37] (fun v37 wc => ∃ (kq : Nat) (x37_6 : Bool), v37 = .bool x37_6 ∧ Aside0 (laws_FnExactNewData.j0 kq l0 t262 t264 t286 x37_6 t243 t246 t249 t252 t255 t258 t261 t267 t270 t273 t276 t279 t282 t285 = some r) ∧ Aside0 (kq ≤ k) ∧ Aside0 (Kd.R (Kd.int .i64) 3 wc w.heap.size (fun k_ => some k_ ≠ ((.slice Ao12 t243.length co12) : Value).ownBlock ∧ some k_ ≠ ((.slice Ao23 t267.length co23) : Value).ownBlock) (.slice Ao20 t264.length co20) t264) ∧ Aside0 (Kd.R (Kd.int .i64) 3 wc w.heap.size (fun k_ => some k_ ≠ ((.slice Ao20 t264.length co20) : Value).ownBlock ∧ some k_ ≠ ((.slice Ao23 t267.length co23) : Value).ownBlock) (.slice Ao12 t243.length co12) t243) ∧ Aside0 (Kd.R k77 77 wc w.heap.size (fun k_ => some k_ ≠ ((.slice Ao26 t270.length co26) : Value).ownBlock) (.slice Ao14 t246.length co14) t246) ∧ Aside0 (Kd.R Kd.bool 4 wc w.heap.size (fun k_ => some k_ ≠ ((.slice Ao16 t252.length co16) : Value).ownBlock ∧ some k_ ≠ ((.slice Ao17 t255.length co17) : Value).ownBlock ∧ some k_ ≠ ((.slice Ao18 t258.length co18) : Value).ownBlock ∧ some k_ ≠ ((.slice Ao27 t273.length co27) : Value).ownBlock ∧ some k_ ≠ ((.slice Ao28 t276.length co28) : Value).ownBlock ∧ some k_ ≠ ((.slice Ao29 t279.length co29) : Value).ownBlock ∧ some k_ ≠ ((.slice Ao30 t282.length co30) : Value).ownBlock) (.slice Ao15 t249.length co15) t249) ∧ Aside0 (Kd.R Kd.bool 4 wc w.heap.size (fun k_ => some k_ ≠ ((.slice Ao15 t249.length co15) : Value).ownBlock ∧ some k_ ≠ ((.slice Ao17 t255.length co17) : Value).ownBlock ∧ some k_ ≠ ((.slice Ao18 t258.length co18) : Value).ownBlock ∧ some k_ ≠ ((.slice Ao27 t273.length co27) : Value).ownBlock ∧ some k_ ≠ ((.slice Ao28 t276.length co28) : Value).ownBlock ∧ some k_ ≠ ((.slice Ao29 t279.length co29) : Value).ownBlock ∧ some k_ ≠ ((.slice Ao30 t282.length co30) : Value).ownBlock) (.slice Ao16 t252.length co16) t252) ∧ Aside0 (Kd.R Kd.bool 4 wc w.heap.size (fun k_ => some k_ ≠ ((.slice Ao15 t249.length co15) : Value).ownBlock ∧ some k_ ≠ ((.slice Ao16 t252.length co16) : Value).ownBlock ∧ some k_ ≠ ((.slice Ao18 t258.length co18) : Value).ownBlock ∧ some k_ ≠ ((.slice Ao27 t273.length co27) : Value).ownBlock ∧ some k_ ≠ ((.slice Ao28 t276.length co28) : Value).ownBlock ∧ some k_ ≠ ((.slice Ao29 t279.length co29) : Value).ownBlock ∧ some k_ ≠ ((.slice Ao30 t282.length co30) : Value).ownBlock) (.slice Ao17 t255.length co17) t255) ∧ Aside0 (Kd.R Kd.bool 4 wc w.heap.size (fun k_ => some k_ ≠ ((.slice Ao15 t249.length co15) : Value).ownBlock ∧ some k_ ≠ ((.slice Ao16 t252.length co16) : Value).ownBlock ∧ some k_ ≠ ((.slice Ao17 t255.length co17) : Value).ownBlock ∧ some k_ ≠ ((.slice Ao27 t273.length co27) : Value).ownBlock ∧ some k_ ≠ ((.slice Ao28 t276.length co28) : Value).ownBlock ∧ some k_ ≠ ((.slice Ao29 t279.length co29) : Value).ownBlock ∧ some k_ ≠ ((.slice Ao30 t282.length co30) : Value).ownBlock) (.slice Ao18 t258.length co18) t258) ∧ Aside0 (Kd.R (Kd.int .i64) 3 wc w.heap.size (fun k_ => some k_ ≠ ((.slice Ao20 t264.length co20) : Value).ownBlock ∧ some k_ ≠ ((.slice Ao12 t243.length co12) : Value).ownBlock) (.slice Ao23 t267.length co23) t267) ∧ Aside0 (Kd.R k77 77 wc w.heap.size (fun k_ => some k_ ≠ ((.slice Ao14 t246.length co14) : Value).ownBlock) (.slice Ao26 t270.length co26) t270) ∧ Aside0 (Kd.R Kd.bool 4 wc w.heap.size (fun k_ => some k_ ≠ ((.slice Ao15 t249.length co15) : Value).ownBlock ∧ some k_ ≠ ((.slice Ao16 t252.length co16) : Value).ownBlock ∧ some k_ ≠ ((.slice Ao17 t255.length co17) : Value).ownBlock ∧ some k_ ≠ ((.slice Ao18 t258.length co18) : Value).ownBlock ∧ some k_ ≠ ((.slice Ao28 t276.length co28) : Value).ownBlock ∧ some k_ ≠ ((.slice Ao29 t279.length co29) : Value).ownBlock ∧ some k_ ≠ ((.slice Ao30 t282.length co30) : Value).ownBlock) (.slice Ao27 t273.length co27) t273) ∧ Aside0 (Kd.R Kd.bool 4 wc w.heap.size (fun k_ => some k_ ≠ ((.slice Ao15 t249.length co15) : Value).ownBlock ∧ some k_ ≠ ((.slice Ao16 t252.length co16) : Value).ownBlock ∧ some k_ ≠ ((.slice Ao17 t255.length co17) : Value).ownBlock ∧ some k_ ≠ ((.slice Ao18 t258.length co18) : Value).ownBlock ∧ some k_ ≠ ((.slice Ao27 t273.length co27) : Value).ownBlock ∧ some k_ ≠ ((.slice Ao29 t279.length co29) : Value).ownBlock ∧ some k_ ≠ ((.slice Ao30 t282.length co30) : Value).ownBlock) (.slice Ao28 t276.length co28) t276) ∧ Aside0 (Kd.R Kd.bool 4 wc w.heap.size (fun k_ => some k_ ≠ ((.slice Ao15 t249.length co15) : Value).ownBlock ∧ some k_ ≠ ((.slice Ao16 t252.length co16) : Value).ownBlock ∧ some k_ ≠ ((.slice Ao17 t255.length co17) : Value).ownBlock ∧ some k_ ≠ ((.slice Ao18 t258.length co18) : Value).ownBlock ∧ some k_ ≠ ((.slice Ao27 t273.length co27) : Value).ownBlock ∧ some k_ ≠ ((.slice Ao28 t276.length co28) : Value).ownBlock ∧ some k_ ≠ ((.slice Ao30 t282.length co30) : Value).ownBlock) (.slice Ao29 t279.length co29) t279) ∧ Aside0 (Kd.R Kd.bool 4 wc w.heap.size (fun k_ => some k_ ≠ ((.slice Ao15 t249.length co15) : Value).ownBlock ∧ some k_ ≠ ((.slice Ao16 t252.length co16) : Value).ownBlock ∧ some k_ ≠ ((.slice Ao17 t255.length co17) : Value).ownBlock ∧ some k_ ≠ ((.slice Ao18 t258.length co18) : Value).ownBlock ∧ some k_ ≠ ((.slice Ao27 t273.length co27) : Value).ownBlock ∧ some k_ ≠ ((.slice Ao28 t276.length co28) : Value).ownBlock ∧ some k_ ≠ ((.slice Ao29 t279.length co29) : Value).ownBlock) (.slice Ao30 t282.length co30) t282) ∧ Aside0 (wc.heap[gb263]? = some (.cells #[(.slice Ao12 t243.length co12), (.slice Ao14 t246.length co14), (.slice Ao15 t249.length co15), (.slice Ao16 t252.length co16), (.slice Ao17 t255.length co17), (.slice Ao18 t258.length co18), .int .i64 t261] 31 (0, 0))) ∧ Aside0 (wc.heap[gb287]? = some (.cells #[(.slice Ao23 t267.length co23), (.slice Ao26 t270.length co26), (.slice Ao27 t273.length co27), (.slice Ao28 t276.length co28), (.slice Ao29 t279.length co29), (.slice Ao30 t282.length co30), .int .i64 t285] 31 (0, 0))) ∧ Aside0 (Below w.heap.size w wc))
  case first =>
   have H := HC7.out
   clear HC7
   replace H := Option.bind_eq_some_iff.mp H
   obtain ⟨t288, A310, H⟩ := H
   replace H : (if t288 = true then (laws_FnExactNewData.j0 k l0 t262 t264 t286 (t286 != t262) t243 t246 t249 t252 t255 t258 t261 t267 t270 t273 t276 t279 t282 t285) else (laws_FnExactNewData.j0 k l0 t262 t264 t286 true t243 t246 t249 t252 t255 t258 t261 t267 t270 t273 t276 t279 t282 t285)) = some r := H
   have A31 := za A310
   clear A310
   by_cases c32 : t288 = true
   ·
    subst c32
    have H1 : (laws_FnExactNewData.j0 k l0 t262 t264 t286 (t286 != t262) t243 t246 t249 t252 t255 t258 t261 t267 t270 t273 t276 t279 t282 t285) = some r := by rw [if_pos rfl] at H; exact H
    clear H
    have H := H1
    clear H1
    have H' := za H
    clear H
    have hnb33 := NB287_263.out
    have hnc33 := NB263_287.out
    have hcz34_0 : w22.cell? ⟨gb287, 0, none⟩ = some (.slice none 0 0) := (zy BK287.out 0).trans rfl
    have hcz34_1 : w22.cell? ⟨gb287, 1, none⟩ = some (.slice none 0 0) := (zy BK287.out 1).trans rfl
    have hcz34_2 : w22.cell? ⟨gb287, 2, none⟩ = some (.slice none 0 0) := (zy BK287.out 2).trans rfl
    have hcz34_3 : w22.cell? ⟨gb287, 3, none⟩ = some (.slice none 0 0) := (zy BK287.out 3).trans rfl
    have hcz34_4 : w22.cell? ⟨gb287, 4, none⟩ = some (.slice none 0 0) := (zy BK287.out 4).trans rfl
    have hcz34_5 : w22.cell? ⟨gb287, 5, none⟩ = some (.slice none 0 0) := (zy BK287.out 5).trans rfl
    have hcz34_6 : w22.cell? ⟨gb287, 6, none⟩ = some (.int .i64 0) := (zy BK287.out 6).trans rfl
    have hfz34_0 := zC BK287.out 0
    have hfz34_1 := zC BK287.out 1
    have hfz34_2 := zC BK287.out 2
    have hfz34_3 := zC BK287.out 3
    have hfz34_4 := zC BK287.out 4
    have hfz34_5 := zC BK287.out 5
    have hfz34_6 := zC BK287.out 6
    have hcz35_0 : w22.cell? ⟨gb263, 0, none⟩ = some (.slice Ao12 t243.length co12) := (zy BK263.out 0).trans rfl
    have hcz35_1 : w22.cell? ⟨gb263, 1, none⟩ = some (.slice Ao14 t246.length co14) := (zy BK263.out 1).trans rfl
    have hcz35_2 : w22.cell? ⟨gb263, 2, none⟩ = some (.slice Ao15 t249.length co15) := (zy BK263.out 2).trans rfl
    have hcz35_3 : w22.cell? ⟨gb263, 3, none⟩ = some (.slice Ao16 t252.length co16) := (zy BK263.out 3).trans rfl
    have hcz35_4 : w22.cell? ⟨gb263, 4, none⟩ = some (.slice Ao17 t255.length co17) := (zy BK263.out 4).trans rfl
    have hcz35_5 : w22.cell? ⟨gb263, 5, none⟩ = some (.slice Ao18 t258.length co18) := (zy BK263.out 5).trans rfl
    have hcz35_6 : w22.cell? ⟨gb263, 6, none⟩ = some (.int .i64 t261) := (zy BK263.out 6).trans rfl
    have hfz35_0 := zC BK263.out 0
    have hfz35_1 := zC BK263.out 1
    have hfz35_2 := zC BK263.out 2
    have hfz35_3 := zC BK263.out 3
    have hfz35_4 := zC BK263.out 4
    have hfz35_5 := zC BK263.out 5
    have hfz35_6 := zC BK263.out 6
    go_wp2_with (first | ((with_reducible refine gate_callee (f := 15) rfl ?_); refine goesL_ (some 31) rfl rfl Try.func15 (by kernel_rfl) rfl #[.agg #[.slice Ao23 t267.length co23, .slice Ao26 t270.length co26, .slice Ao27 t273.length co27, .slice Ao28 t276.length co28, .slice Ao29 t279.length co29, .slice Ao30 t282.length co30, .int .i64 t285], .agg #[.slice Ao12 t243.length co12, .slice Ao14 t246.length co14, .slice Ao15 t249.length co15, .slice Ao16 t252.length co16, .slice Ao17 t255.length co17, .slice Ao18 t258.length co18, .int .i64 t261]] rfl (by (try simp only [List.map_toArray, List.map_cons, List.map_nil]); first | done | rfl | (simp only [List.length_drop, List.length_take]; rfl)) ?_; (with_reducible refine (laws_eqData.calls k _ _ t267 _ _ t270 _ _ t273 _ _ t276 _ _ t279 _ _ t282 t285 _ _ t243 _ _ t246 _ _ t249 _ _ t252 _ _ t255 _ _ t258 t261 true _ ?side1 ?side2 ?side3 ?side4 ?side5 ?side6 ?side7 ?side8 ?side9 ?side10 ?side11 ?side12 ?side13 ?side14 ?side15 ?side16 ?side17 ?side18 ?side19 ?side20 ?side21 ?side22 ?side23 ?side24 A31.out).mono ?_); (case side1 => refine (zo (e := 3) (base := w.heap.size) (ok := fun k_ => (((True ∧ some k_ ≠ (.slice Ao9 t240.length co9 : Value).ownBlock) ∧ some k_ ≠ (.slice Ao12 t243.length co12 : Value).ownBlock) ∧ some k_ ≠ (.slice Ao20 t264.length co20 : Value).ownBlock)) (n := t267.length) (c := co23) ?_).2.2; exact (by (with_reducible repeat (first | apply ze | apply zj | apply zi)); exact (zm (Kd_R_far7 HO269.out BK287.out (by decide)) (fun _ h_ => h_.1)))); (case side2 => exact (zo HO269.out).2.1); (case side3 => refine (zo (e := 77) (base := w.heap.size) (ok := fun k_ => (True ∧ some k_ ≠ (.slice Ao14 t246.length co14 : Value).ownBlock)) (n := t270.length) (c := co26) ?_).2.2; exact (by (with_reducible repeat (first | apply ze | apply zj | apply zi)); exact (zm (Kd_R_far7 HO272.out BK287.out (by decide)) (fun _ h_ => h_.1)))); (case side4 => exact (zo HO272.out).2.1); (case side5 => refine (zo (e := 4) (base := w.heap.size) (ok := fun k_ => (((((some k_ ≠ (.slice Ao28 t276.length co28 : Value).ownBlock ∧ (some k_ ≠ (.slice Ao29 t279.length co29 : Value).ownBlock ∧ some k_ ≠ (.slice Ao30 t282.length co30 : Value).ownBlock)) ∧ some k_ ≠ (.slice Ao15 t249.length co15 : Value).ownBlock) ∧ some k_ ≠ (.slice Ao16 t252.length co16 : Value).ownBlock) ∧ some k_ ≠ (.slice Ao17 t255.length co17 : Value).ownBlock) ∧ some k_ ≠ (.slice Ao18 t258.length co18 : Value).ownBlock)) (n := t273.length) (c := co27) ?_).2.2; exact (by (with_reducible repeat (first | apply ze | apply zj | apply zi)); exact (zm (Kd_R_far7 HO275.out BK287.out (by decide)) (fun _ h_ => h_.1)))); (case side6 => exact (zo HO275.out).2.1); (case side7 => refine (zo (e := 4) (base := w.heap.size) (ok := fun k_ => (((((some k_ ≠ (.slice Ao27 t273.length co27 : Value).ownBlock ∧ (some k_ ≠ (.slice Ao29 t279.length co29 : Value).ownBlock ∧ some k_ ≠ (.slice Ao30 t282.length co30 : Value).ownBlock)) ∧ some k_ ≠ (.slice Ao15 t249.length co15 : Value).ownBlock) ∧ some k_ ≠ (.slice Ao16 t252.length co16 : Value).ownBlock) ∧ some k_ ≠ (.slice Ao17 t255.length co17 : Value).ownBlock) ∧ some k_ ≠ (.slice Ao18 t258.length co18 : Value).ownBlock)) (n := t276.length) (c := co28) ?_).2.2; exact (by (with_reducible repeat (first | apply ze | apply zj | apply zi)); exact (zm (Kd_R_far7 HO278.out BK287.out (by decide)) (fun _ h_ => h_.1)))); (case side8 => exact (zo HO278.out).2.1); (case side9 => refine (zo (e := 4) (base := w.heap.size) (ok := fun k_ => (((((some k_ ≠ (.slice Ao27 t273.length co27 : Value).ownBlock ∧ (some k_ ≠ (.slice Ao28 t276.length co28 : Value).ownBlock ∧ some k_ ≠ (.slice Ao30 t282.length co30 : Value).ownBlock)) ∧ some k_ ≠ (.slice Ao15 t249.length co15 : Value).ownBlock) ∧ some k_ ≠ (.slice Ao16 t252.length co16 : Value).ownBlock) ∧ some k_ ≠ (.slice Ao17 t255.length co17 : Value).ownBlock) ∧ some k_ ≠ (.slice Ao18 t258.length co18 : Value).ownBlock)) (n := t279.length) (c := co29) ?_).2.2; exact (by (with_reducible repeat (first | apply ze | apply zj | apply zi)); exact (zm (Kd_R_far7 HO281.out BK287.out (by decide)) (fun _ h_ => h_.1)))); (case side10 => exact (zo HO281.out).2.1); (case side11 => refine (zo (e := 4) (base := w.heap.size) (ok := fun k_ => (((((some k_ ≠ (.slice Ao27 t273.length co27 : Value).ownBlock ∧ (some k_ ≠ (.slice Ao28 t276.length co28 : Value).ownBlock ∧ some k_ ≠ (.slice Ao29 t279.length co29 : Value).ownBlock)) ∧ some k_ ≠ (.slice Ao15 t249.length co15 : Value).ownBlock) ∧ some k_ ≠ (.slice Ao16 t252.length co16 : Value).ownBlock) ∧ some k_ ≠ (.slice Ao17 t255.length co17 : Value).ownBlock) ∧ some k_ ≠ (.slice Ao18 t258.length co18 : Value).ownBlock)) (n := t282.length) (c := co30) ?_).2.2; exact (by (with_reducible repeat (first | apply ze | apply zj | apply zi)); exact (zm (Kd_R_far7 HO284.out BK287.out (by decide)) (fun _ h_ => h_.1)))); (case side12 => exact (zo HO284.out).2.1); (case side13 => refine (zo (e := 3) (base := w.heap.size) (ok := fun k_ => (((True ∧ some k_ ≠ (.slice Ao9 t240.length co9 : Value).ownBlock) ∧ some k_ ≠ (.slice Ao20 t264.length co20 : Value).ownBlock) ∧ some k_ ≠ (.slice Ao23 t267.length co23 : Value).ownBlock)) (n := t243.length) (c := co12) ?_).2.2; exact (by (with_reducible repeat (first | apply ze | apply zj | apply zi)); exact (zm (Kd_R_far7 HO245.out BK287.out (by decide)) (fun _ h_ => h_.1)))); (case side14 => exact (zo HO245.out).2.1); (case side15 => refine (zo (e := 77) (base := w.heap.size) (ok := fun k_ => (True ∧ some k_ ≠ (.slice Ao26 t270.length co26 : Value).ownBlock)) (n := t246.length) (c := co14) ?_).2.2; exact (by (with_reducible repeat (first | apply ze | apply zj | apply zi)); exact (zm (Kd_R_far7 HO248.out BK287.out (by decide)) (fun _ h_ => h_.1)))); (case side16 => exact (zo HO248.out).2.1); (case side17 => refine (zo (e := 4) (base := w.heap.size) (ok := fun k_ => (((((some k_ ≠ (.slice Ao16 t252.length co16 : Value).ownBlock ∧ (some k_ ≠ (.slice Ao17 t255.length co17 : Value).ownBlock ∧ some k_ ≠ (.slice Ao18 t258.length co18 : Value).ownBlock)) ∧ some k_ ≠ (.slice Ao27 t273.length co27 : Value).ownBlock) ∧ some k_ ≠ (.slice Ao28 t276.length co28 : Value).ownBlock) ∧ some k_ ≠ (.slice Ao29 t279.length co29 : Value).ownBlock) ∧ some k_ ≠ (.slice Ao30 t282.length co30 : Value).ownBlock)) (n := t249.length) (c := co15) ?_).2.2; exact (by (with_reducible repeat (first | apply ze | apply zj | apply zi)); exact (zm (Kd_R_far7 HO251.out BK287.out (by decide)) (fun _ h_ => h_.1)))); (case side18 => exact (zo HO251.out).2.1); (case side19 => refine (zo (e := 4) (base := w.heap.size) (ok := fun k_ => (((((some k_ ≠ (.slice Ao15 t249.length co15 : Value).ownBlock ∧ (some k_ ≠ (.slice Ao17 t255.length co17 : Value).ownBlock ∧ some k_ ≠ (.slice Ao18 t258.length co18 : Value).ownBlock)) ∧ some k_ ≠ (.slice Ao27 t273.length co27 : Value).ownBlock) ∧ some k_ ≠ (.slice Ao28 t276.length co28 : Value).ownBlock) ∧ some k_ ≠ (.slice Ao29 t279.length co29 : Value).ownBlock) ∧ some k_ ≠ (.slice Ao30 t282.length co30 : Value).ownBlock)) (n := t252.length) (c := co16) ?_).2.2; exact (by (with_reducible repeat (first | apply ze | apply zj | apply zi)); exact (zm (Kd_R_far7 HO254.out BK287.out (by decide)) (fun _ h_ => h_.1)))); (case side20 => exact (zo HO254.out).2.1); (case side21 => refine (zo (e := 4) (base := w.heap.size) (ok := fun k_ => (((((some k_ ≠ (.slice Ao15 t249.length co15 : Value).ownBlock ∧ (some k_ ≠ (.slice Ao16 t252.length co16 : Value).ownBlock ∧ some k_ ≠ (.slice Ao18 t258.length co18 : Value).ownBlock)) ∧ some k_ ≠ (.slice Ao27 t273.length co27 : Value).ownBlock) ∧ some k_ ≠ (.slice Ao28 t276.length co28 : Value).ownBlock) ∧ some k_ ≠ (.slice Ao29 t279.length co29 : Value).ownBlock) ∧ some k_ ≠ (.slice Ao30 t282.length co30 : Value).ownBlock)) (n := t255.length) (c := co17) ?_).2.2; exact (by (with_reducible repeat (first | apply ze | apply zj | apply zi)); exact (zm (Kd_R_far7 HO257.out BK287.out (by decide)) (fun _ h_ => h_.1)))); (case side22 => exact (zo HO257.out).2.1); (case side23 => refine (zo (e := 4) (base := w.heap.size) (ok := fun k_ => (((((some k_ ≠ (.slice Ao15 t249.length co15 : Value).ownBlock ∧ (some k_ ≠ (.slice Ao16 t252.length co16 : Value).ownBlock ∧ some k_ ≠ (.slice Ao17 t255.length co17 : Value).ownBlock)) ∧ some k_ ≠ (.slice Ao27 t273.length co27 : Value).ownBlock) ∧ some k_ ≠ (.slice Ao28 t276.length co28 : Value).ownBlock) ∧ some k_ ≠ (.slice Ao29 t279.length co29 : Value).ownBlock) ∧ some k_ ≠ (.slice Ao30 t282.length co30 : Value).ownBlock)) (n := t258.length) (c := co18) ?_).2.2; exact (by (with_reducible repeat (first | apply ze | apply zj | apply zi)); exact (zm (Kd_R_far7 HO260.out BK287.out (by decide)) (fun _ h_ => h_.1)))); (case side24 => exact (zo HO260.out).2.1); rintro e w36 ⟨rfl, hb⟩; refine ⟨_, rfl, ?_⟩; have n0_ := za (zh (by (with_reducible repeat (first | apply ze | apply zj | apply zi)); exact (zm (Kd_R_far7 HO242.out BK287.out (by decide)) (fun _ h_ => h_.1))) hb); have n1_ := za (zh (by (with_reducible repeat (first | apply ze | apply zj | apply zi)); exact (zm (Kd_R_far7 HO245.out BK287.out (by decide)) (fun _ h_ => h_.1))) hb); have n2_ := za (zh (by (with_reducible repeat (first | apply ze | apply zj | apply zi)); exact (zm (Kd_R_far7 HO248.out BK287.out (by decide)) (fun _ h_ => h_.1))) hb); have n3_ := za (zh (by (with_reducible repeat (first | apply ze | apply zj | apply zi)); exact (zm (Kd_R_far7 HO251.out BK287.out (by decide)) (fun _ h_ => h_.1))) hb); have n4_ := za (zh (by (with_reducible repeat (first | apply ze | apply zj | apply zi)); exact (zm (Kd_R_far7 HO254.out BK287.out (by decide)) (fun _ h_ => h_.1))) hb); have n5_ := za (zh (by (with_reducible repeat (first | apply ze | apply zj | apply zi)); exact (zm (Kd_R_far7 HO257.out BK287.out (by decide)) (fun _ h_ => h_.1))) hb); have n6_ := za (zh (by (with_reducible repeat (first | apply ze | apply zj | apply zi)); exact (zm (Kd_R_far7 HO260.out BK287.out (by decide)) (fun _ h_ => h_.1))) hb); have n7_ := za (zh (by (with_reducible repeat (first | apply ze | apply zj | apply zi)); exact (zm (Kd_R_far7 HO266.out BK287.out (by decide)) (fun _ h_ => h_.1))) hb); have n8_ := za (zh (by (with_reducible repeat (first | apply ze | apply zj | apply zi)); exact (zm (Kd_R_far7 HO269.out BK287.out (by decide)) (fun _ h_ => h_.1))) hb); have n9_ := za (zh (by (with_reducible repeat (first | apply ze | apply zj | apply zi)); exact (zm (Kd_R_far7 HO272.out BK287.out (by decide)) (fun _ h_ => h_.1))) hb); have n10_ := za (zh (by (with_reducible repeat (first | apply ze | apply zj | apply zi)); exact (zm (Kd_R_far7 HO275.out BK287.out (by decide)) (fun _ h_ => h_.1))) hb); have n11_ := za (zh (by (with_reducible repeat (first | apply ze | apply zj | apply zi)); exact (zm (Kd_R_far7 HO278.out BK287.out (by decide)) (fun _ h_ => h_.1))) hb); have n12_ := za (zh (by (with_reducible repeat (first | apply ze | apply zj | apply zi)); exact (zm (Kd_R_far7 HO281.out BK287.out (by decide)) (fun _ h_ => h_.1))) hb); have n13_ := za (zh (by (with_reducible repeat (first | apply ze | apply zj | apply zi)); exact (zm (Kd_R_far7 HO284.out BK287.out (by decide)) (fun _ h_ => h_.1))) hb); have n14_ := za (zx (g := gb263) (o := .cells #[.slice Ao12 t243.length co12, .slice Ao14 t246.length co14, .slice Ao15 t249.length co15, .slice Ao16 t252.length co16, .slice Ao17 t255.length co17, .slice Ao18 t258.length co18, .int .i64 t261] 31 (0, 0)) (by (with_reducible repeat (first | refine zA ?_ _ | refine zz ?_ | refine zw ?_ _)); refine zB ?_ NB263_287.out _; (with_reducible repeat (first | refine zA ?_ _ | refine zz ?_ | refine zw ?_ _)); refine zB ?_ NB263_287.out _; (with_reducible repeat (first | refine zA ?_ _ | refine zz ?_ | refine zw ?_ _)); refine zB ?_ NB263_287.out _; (with_reducible repeat (first | refine zA ?_ _ | refine zz ?_ | refine zw ?_ _)); refine zB ?_ NB263_287.out _; (with_reducible repeat (first | refine zA ?_ _ | refine zz ?_ | refine zw ?_ _)); refine zB ?_ NB263_287.out _; (with_reducible repeat (first | refine zA ?_ _ | refine zz ?_ | refine zw ?_ _)); refine zB ?_ NB263_287.out _; (with_reducible repeat (first | refine zA ?_ _ | refine zz ?_ | refine zw ?_ _)); refine zB ?_ NB263_287.out _; (with_reducible repeat (first | refine zA ?_ _ | refine zz ?_ | refine zw ?_ _)); exact BK263.out) hb); have n15_ := za (zx (g := gb287) (o := .cells #[.slice Ao23 t267.length co23, .slice Ao26 t270.length co26, .slice Ao27 t273.length co27, .slice Ao28 t276.length co28, .slice Ao29 t279.length co29, .slice Ao30 t282.length co30, .int .i64 t285] 31 (0, 0)) (by (with_reducible repeat (first | refine zA ?_ _ | refine zz ?_ | refine zw ?_ _)); refine blk_put (cs := #[.slice Ao23 t267.length co23, .slice Ao26 t270.length co26, .slice Ao27 t273.length co27, .slice Ao28 t276.length co28, .slice Ao29 t279.length co29, .slice Ao30 t282.length co30, .int .i64 0]) ?_ 6 _ rfl; (with_reducible repeat (first | refine zA ?_ _ | refine zz ?_ | refine zw ?_ _)); refine blk_put (cs := #[.slice Ao23 t267.length co23, .slice Ao26 t270.length co26, .slice Ao27 t273.length co27, .slice Ao28 t276.length co28, .slice Ao29 t279.length co29, .slice none 0 0, .int .i64 0]) ?_ 5 _ rfl; (with_reducible repeat (first | refine zA ?_ _ | refine zz ?_ | refine zw ?_ _)); refine blk_put (cs := #[.slice Ao23 t267.length co23, .slice Ao26 t270.length co26, .slice Ao27 t273.length co27, .slice Ao28 t276.length co28, .slice none 0 0, .slice none 0 0, .int .i64 0]) ?_ 4 _ rfl; (with_reducible repeat (first | refine zA ?_ _ | refine zz ?_ | refine zw ?_ _)); refine blk_put (cs := #[.slice Ao23 t267.length co23, .slice Ao26 t270.length co26, .slice Ao27 t273.length co27, .slice none 0 0, .slice none 0 0, .slice none 0 0, .int .i64 0]) ?_ 3 _ rfl; (with_reducible repeat (first | refine zA ?_ _ | refine zz ?_ | refine zw ?_ _)); refine blk_put (cs := #[.slice Ao23 t267.length co23, .slice Ao26 t270.length co26, .slice none 0 0, .slice none 0 0, .slice none 0 0, .slice none 0 0, .int .i64 0]) ?_ 2 _ rfl; (with_reducible repeat (first | refine zA ?_ _ | refine zz ?_ | refine zw ?_ _)); refine blk_put (cs := #[.slice Ao23 t267.length co23, .slice none 0 0, .slice none 0 0, .slice none 0 0, .slice none 0 0, .slice none 0 0, .int .i64 0]) ?_ 1 _ rfl; (with_reducible repeat (first | refine zA ?_ _ | refine zz ?_ | refine zw ?_ _)); refine blk_put (cs := #[.slice none 0 0, .slice none 0 0, .slice none 0 0, .slice none 0 0, .slice none 0 0, .slice none 0 0, .int .i64 0]) ?_ 0 _ rfl; (with_reducible repeat (first | refine zA ?_ _ | refine zz ?_ | refine zw ?_ _)); exact BK287.out) hb); have n16_ := za (below_step (by repeat (first | (with_reducible first | exact HB.out | apply zs | apply zD | apply zt | refine zu ?_ GE263.out | refine zu ?_ GE287.out) | exact HB.out)) hb); clear HO242; clear HO245; clear HO248; clear HO251; clear HO254; clear HO257; clear HO260; clear HO266; clear HO269; clear HO272; clear HO275; clear HO278; clear HO281; clear HO284; clear BK263; clear BK287; clear HB; have HO242 := n0_; have HO245 := n1_; have HO248 := n2_; have HO251 := n3_; have HO254 := n4_; have HO257 := n5_; have HO260 := n6_; have HO266 := n7_; have HO269 := n8_; have HO272 := n9_; have HO275 := n10_; have HO278 := n11_; have HO281 := n12_; have HO284 := n13_; have BK263 := n14_; have BK287 := n15_; have HB := n16_; clear n0_ n1_ n2_ n3_ n4_ n5_ n6_ n7_ n8_ n9_ n10_ n11_ n12_ n13_ n14_ n15_ n16_; (try clear hb); (try clear hb2); (try clear hk); (try clear hi)))
    go_meet
    case rel => exact ⟨_, ((t286 != t262)), (by first | rfl | (simp; done) | (simp [*]; done)), H', ⟨by first | omega | exact Nat.le_refl _⟩, ⟨by (with_reducible repeat (first | apply ze | apply zj | apply zi)); exact zm HO266.out (fun _ hk => ⟨hk.1.2, hk.2⟩)⟩, ⟨by (with_reducible repeat (first | apply ze | apply zj | apply zi)); exact zm HO245.out (fun _ hk => ⟨hk.1.2, hk.2⟩)⟩, ⟨by (with_reducible repeat (first | apply ze | apply zj | apply zi)); exact zm HO248.out (fun _ hk => hk.2)⟩, ⟨by (with_reducible repeat (first | apply ze | apply zj | apply zi)); exact zm HO251.out (fun _ hk => ⟨hk.1.1.1.1.1, ⟨hk.1.1.1.1.2.1, ⟨hk.1.1.1.1.2.2, ⟨hk.1.1.1.2, ⟨hk.1.1.2, ⟨hk.1.2, hk.2⟩⟩⟩⟩⟩⟩)⟩, ⟨by (with_reducible repeat (first | apply ze | apply zj | apply zi)); exact zm HO254.out (fun _ hk => ⟨hk.1.1.1.1.1, ⟨hk.1.1.1.1.2.1, ⟨hk.1.1.1.1.2.2, ⟨hk.1.1.1.2, ⟨hk.1.1.2, ⟨hk.1.2, hk.2⟩⟩⟩⟩⟩⟩)⟩, ⟨by (with_reducible repeat (first | apply ze | apply zj | apply zi)); exact zm HO257.out (fun _ hk => ⟨hk.1.1.1.1.1, ⟨hk.1.1.1.1.2.1, ⟨hk.1.1.1.1.2.2, ⟨hk.1.1.1.2, ⟨hk.1.1.2, ⟨hk.1.2, hk.2⟩⟩⟩⟩⟩⟩)⟩, ⟨by (with_reducible repeat (first | apply ze | apply zj | apply zi)); exact zm HO260.out (fun _ hk => ⟨hk.1.1.1.1.1, ⟨hk.1.1.1.1.2.1, ⟨hk.1.1.1.1.2.2, ⟨hk.1.1.1.2, ⟨hk.1.1.2, ⟨hk.1.2, hk.2⟩⟩⟩⟩⟩⟩)⟩, ⟨by (with_reducible repeat (first | apply ze | apply zj | apply zi)); exact zm HO269.out (fun _ hk => ⟨hk.2, hk.1.2⟩)⟩, ⟨by (with_reducible repeat (first | apply ze | apply zj | apply zi)); exact zm HO272.out (fun _ hk => hk.2)⟩, ⟨by (with_reducible repeat (first | apply ze | apply zj | apply zi)); exact zm HO275.out (fun _ hk => ⟨hk.1.1.1.2, ⟨hk.1.1.2, ⟨hk.1.2, ⟨hk.2, ⟨hk.1.1.1.1.1, ⟨hk.1.1.1.1.2.1, hk.1.1.1.1.2.2⟩⟩⟩⟩⟩⟩)⟩, ⟨by (with_reducible repeat (first | apply ze | apply zj | apply zi)); exact zm HO278.out (fun _ hk => ⟨hk.1.1.1.2, ⟨hk.1.1.2, ⟨hk.1.2, ⟨hk.2, ⟨hk.1.1.1.1.1, ⟨hk.1.1.1.1.2.1, hk.1.1.1.1.2.2⟩⟩⟩⟩⟩⟩)⟩, ⟨by (with_reducible repeat (first | apply ze | apply zj | apply zi)); exact zm HO281.out (fun _ hk => ⟨hk.1.1.1.2, ⟨hk.1.1.2, ⟨hk.1.2, ⟨hk.2, ⟨hk.1.1.1.1.1, ⟨hk.1.1.1.1.2.1, hk.1.1.1.1.2.2⟩⟩⟩⟩⟩⟩)⟩, ⟨by (with_reducible repeat (first | apply ze | apply zj | apply zi)); exact zm HO284.out (fun _ hk => ⟨hk.1.1.1.2, ⟨hk.1.1.2, ⟨hk.1.2, ⟨hk.2, ⟨hk.1.1.1.1.1, ⟨hk.1.1.1.1.2.1, hk.1.1.1.1.2.2⟩⟩⟩⟩⟩⟩)⟩, ⟨by (with_reducible repeat (first | refine zA ?_ _ | refine zz ?_ | refine zw ?_ _)); exact BK263.out⟩, ⟨by (with_reducible repeat (first | refine zA ?_ _ | refine zz ?_ | refine zw ?_ _)); exact BK287.out⟩, ⟨by repeat (first | (with_reducible first | exact HB.out | apply zs | apply zD | apply zt | refine zu ?_ GE263.out | refine zu ?_ GE287.out) | exact HB.out)⟩⟩
   ·
    replace c32 := Bool.eq_false_iff.mpr c32
    subst c32
    have H1 : (laws_FnExactNewData.j0 k l0 t262 t264 t286 true t243 t246 t249 t252 t255 t258 t261 t267 t270 t273 t276 t279 t282 t285) = some r := by rw [if_neg (show ¬ (false = true) by decide)] at H; exact H
    clear H
    have H := H1
    clear H1
    have H' := za H
    clear H
    have hnb37 := NB287_263.out
    have hnc37 := NB263_287.out
    have hcz38_0 : w22.cell? ⟨gb287, 0, none⟩ = some (.slice none 0 0) := (zy BK287.out 0).trans rfl
    have hcz38_1 : w22.cell? ⟨gb287, 1, none⟩ = some (.slice none 0 0) := (zy BK287.out 1).trans rfl
    have hcz38_2 : w22.cell? ⟨gb287, 2, none⟩ = some (.slice none 0 0) := (zy BK287.out 2).trans rfl
    have hcz38_3 : w22.cell? ⟨gb287, 3, none⟩ = some (.slice none 0 0) := (zy BK287.out 3).trans rfl
    have hcz38_4 : w22.cell? ⟨gb287, 4, none⟩ = some (.slice none 0 0) := (zy BK287.out 4).trans rfl
    have hcz38_5 : w22.cell? ⟨gb287, 5, none⟩ = some (.slice none 0 0) := (zy BK287.out 5).trans rfl
    have hcz38_6 : w22.cell? ⟨gb287, 6, none⟩ = some (.int .i64 0) := (zy BK287.out 6).trans rfl
    have hfz38_0 := zC BK287.out 0
    have hfz38_1 := zC BK287.out 1
    have hfz38_2 := zC BK287.out 2
    have hfz38_3 := zC BK287.out 3
    have hfz38_4 := zC BK287.out 4
    have hfz38_5 := zC BK287.out 5
    have hfz38_6 := zC BK287.out 6
    have hcz39_0 : w22.cell? ⟨gb263, 0, none⟩ = some (.slice Ao12 t243.length co12) := (zy BK263.out 0).trans rfl
    have hcz39_1 : w22.cell? ⟨gb263, 1, none⟩ = some (.slice Ao14 t246.length co14) := (zy BK263.out 1).trans rfl
    have hcz39_2 : w22.cell? ⟨gb263, 2, none⟩ = some (.slice Ao15 t249.length co15) := (zy BK263.out 2).trans rfl
    have hcz39_3 : w22.cell? ⟨gb263, 3, none⟩ = some (.slice Ao16 t252.length co16) := (zy BK263.out 3).trans rfl
    have hcz39_4 : w22.cell? ⟨gb263, 4, none⟩ = some (.slice Ao17 t255.length co17) := (zy BK263.out 4).trans rfl
    have hcz39_5 : w22.cell? ⟨gb263, 5, none⟩ = some (.slice Ao18 t258.length co18) := (zy BK263.out 5).trans rfl
    have hcz39_6 : w22.cell? ⟨gb263, 6, none⟩ = some (.int .i64 t261) := (zy BK263.out 6).trans rfl
    have hfz39_0 := zC BK263.out 0
    have hfz39_1 := zC BK263.out 1
    have hfz39_2 := zC BK263.out 2
    have hfz39_3 := zC BK263.out 3
    have hfz39_4 := zC BK263.out 4
    have hfz39_5 := zC BK263.out 5
    have hfz39_6 := zC BK263.out 6
    go_wp2_with (first | ((with_reducible refine gate_callee (f := 15) rfl ?_); refine goesL_ (some 31) rfl rfl Try.func15 (by kernel_rfl) rfl #[.agg #[.slice Ao23 t267.length co23, .slice Ao26 t270.length co26, .slice Ao27 t273.length co27, .slice Ao28 t276.length co28, .slice Ao29 t279.length co29, .slice Ao30 t282.length co30, .int .i64 t285], .agg #[.slice Ao12 t243.length co12, .slice Ao14 t246.length co14, .slice Ao15 t249.length co15, .slice Ao16 t252.length co16, .slice Ao17 t255.length co17, .slice Ao18 t258.length co18, .int .i64 t261]] rfl (by (try simp only [List.map_toArray, List.map_cons, List.map_nil]); first | done | rfl | (simp only [List.length_drop, List.length_take]; rfl)) ?_; (with_reducible refine (laws_eqData.calls k _ _ t267 _ _ t270 _ _ t273 _ _ t276 _ _ t279 _ _ t282 t285 _ _ t243 _ _ t246 _ _ t249 _ _ t252 _ _ t255 _ _ t258 t261 false _ ?side1 ?side2 ?side3 ?side4 ?side5 ?side6 ?side7 ?side8 ?side9 ?side10 ?side11 ?side12 ?side13 ?side14 ?side15 ?side16 ?side17 ?side18 ?side19 ?side20 ?side21 ?side22 ?side23 ?side24 A31.out).mono ?_); (case side1 => refine (zo (e := 3) (base := w.heap.size) (ok := fun k_ => (((True ∧ some k_ ≠ (.slice Ao9 t240.length co9 : Value).ownBlock) ∧ some k_ ≠ (.slice Ao12 t243.length co12 : Value).ownBlock) ∧ some k_ ≠ (.slice Ao20 t264.length co20 : Value).ownBlock)) (n := t267.length) (c := co23) ?_).2.2; exact (by (with_reducible repeat (first | apply ze | apply zj | apply zi)); exact (zm (Kd_R_far7 HO269.out BK287.out (by decide)) (fun _ h_ => h_.1)))); (case side2 => exact (zo HO269.out).2.1); (case side3 => refine (zo (e := 77) (base := w.heap.size) (ok := fun k_ => (True ∧ some k_ ≠ (.slice Ao14 t246.length co14 : Value).ownBlock)) (n := t270.length) (c := co26) ?_).2.2; exact (by (with_reducible repeat (first | apply ze | apply zj | apply zi)); exact (zm (Kd_R_far7 HO272.out BK287.out (by decide)) (fun _ h_ => h_.1)))); (case side4 => exact (zo HO272.out).2.1); (case side5 => refine (zo (e := 4) (base := w.heap.size) (ok := fun k_ => (((((some k_ ≠ (.slice Ao28 t276.length co28 : Value).ownBlock ∧ (some k_ ≠ (.slice Ao29 t279.length co29 : Value).ownBlock ∧ some k_ ≠ (.slice Ao30 t282.length co30 : Value).ownBlock)) ∧ some k_ ≠ (.slice Ao15 t249.length co15 : Value).ownBlock) ∧ some k_ ≠ (.slice Ao16 t252.length co16 : Value).ownBlock) ∧ some k_ ≠ (.slice Ao17 t255.length co17 : Value).ownBlock) ∧ some k_ ≠ (.slice Ao18 t258.length co18 : Value).ownBlock)) (n := t273.length) (c := co27) ?_).2.2; exact (by (with_reducible repeat (first | apply ze | apply zj | apply zi)); exact (zm (Kd_R_far7 HO275.out BK287.out (by decide)) (fun _ h_ => h_.1)))); (case side6 => exact (zo HO275.out).2.1); (case side7 => refine (zo (e := 4) (base := w.heap.size) (ok := fun k_ => (((((some k_ ≠ (.slice Ao27 t273.length co27 : Value).ownBlock ∧ (some k_ ≠ (.slice Ao29 t279.length co29 : Value).ownBlock ∧ some k_ ≠ (.slice Ao30 t282.length co30 : Value).ownBlock)) ∧ some k_ ≠ (.slice Ao15 t249.length co15 : Value).ownBlock) ∧ some k_ ≠ (.slice Ao16 t252.length co16 : Value).ownBlock) ∧ some k_ ≠ (.slice Ao17 t255.length co17 : Value).ownBlock) ∧ some k_ ≠ (.slice Ao18 t258.length co18 : Value).ownBlock)) (n := t276.length) (c := co28) ?_).2.2; exact (by (with_reducible repeat (first | apply ze | apply zj | apply zi)); exact (zm (Kd_R_far7 HO278.out BK287.out (by decide)) (fun _ h_ => h_.1)))); (case side8 => exact (zo HO278.out).2.1); (case side9 => refine (zo (e := 4) (base := w.heap.size) (ok := fun k_ => (((((some k_ ≠ (.slice Ao27 t273.length co27 : Value).ownBlock ∧ (some k_ ≠ (.slice Ao28 t276.length co28 : Value).ownBlock ∧ some k_ ≠ (.slice Ao30 t282.length co30 : Value).ownBlock)) ∧ some k_ ≠ (.slice Ao15 t249.length co15 : Value).ownBlock) ∧ some k_ ≠ (.slice Ao16 t252.length co16 : Value).ownBlock) ∧ some k_ ≠ (.slice Ao17 t255.length co17 : Value).ownBlock) ∧ some k_ ≠ (.slice Ao18 t258.length co18 : Value).ownBlock)) (n := t279.length) (c := co29) ?_).2.2; exact (by (with_reducible repeat (first | apply ze | apply zj | apply zi)); exact (zm (Kd_R_far7 HO281.out BK287.out (by decide)) (fun _ h_ => h_.1)))); (case side10 => exact (zo HO281.out).2.1); (case side11 => refine (zo (e := 4) (base := w.heap.size) (ok := fun k_ => (((((some k_ ≠ (.slice Ao27 t273.length co27 : Value).ownBlock ∧ (some k_ ≠ (.slice Ao28 t276.length co28 : Value).ownBlock ∧ some k_ ≠ (.slice Ao29 t279.length co29 : Value).ownBlock)) ∧ some k_ ≠ (.slice Ao15 t249.length co15 : Value).ownBlock) ∧ some k_ ≠ (.slice Ao16 t252.length co16 : Value).ownBlock) ∧ some k_ ≠ (.slice Ao17 t255.length co17 : Value).ownBlock) ∧ some k_ ≠ (.slice Ao18 t258.length co18 : Value).ownBlock)) (n := t282.length) (c := co30) ?_).2.2; exact (by (with_reducible repeat (first | apply ze | apply zj | apply zi)); exact (zm (Kd_R_far7 HO284.out BK287.out (by decide)) (fun _ h_ => h_.1)))); (case side12 => exact (zo HO284.out).2.1); (case side13 => refine (zo (e := 3) (base := w.heap.size) (ok := fun k_ => (((True ∧ some k_ ≠ (.slice Ao9 t240.length co9 : Value).ownBlock) ∧ some k_ ≠ (.slice Ao20 t264.length co20 : Value).ownBlock) ∧ some k_ ≠ (.slice Ao23 t267.length co23 : Value).ownBlock)) (n := t243.length) (c := co12) ?_).2.2; exact (by (with_reducible repeat (first | apply ze | apply zj | apply zi)); exact (zm (Kd_R_far7 HO245.out BK287.out (by decide)) (fun _ h_ => h_.1)))); (case side14 => exact (zo HO245.out).2.1); (case side15 => refine (zo (e := 77) (base := w.heap.size) (ok := fun k_ => (True ∧ some k_ ≠ (.slice Ao26 t270.length co26 : Value).ownBlock)) (n := t246.length) (c := co14) ?_).2.2; exact (by (with_reducible repeat (first | apply ze | apply zj | apply zi)); exact (zm (Kd_R_far7 HO248.out BK287.out (by decide)) (fun _ h_ => h_.1)))); (case side16 => exact (zo HO248.out).2.1); (case side17 => refine (zo (e := 4) (base := w.heap.size) (ok := fun k_ => (((((some k_ ≠ (.slice Ao16 t252.length co16 : Value).ownBlock ∧ (some k_ ≠ (.slice Ao17 t255.length co17 : Value).ownBlock ∧ some k_ ≠ (.slice Ao18 t258.length co18 : Value).ownBlock)) ∧ some k_ ≠ (.slice Ao27 t273.length co27 : Value).ownBlock) ∧ some k_ ≠ (.slice Ao28 t276.length co28 : Value).ownBlock) ∧ some k_ ≠ (.slice Ao29 t279.length co29 : Value).ownBlock) ∧ some k_ ≠ (.slice Ao30 t282.length co30 : Value).ownBlock)) (n := t249.length) (c := co15) ?_).2.2; exact (by (with_reducible repeat (first | apply ze | apply zj | apply zi)); exact (zm (Kd_R_far7 HO251.out BK287.out (by decide)) (fun _ h_ => h_.1)))); (case side18 => exact (zo HO251.out).2.1); (case side19 => refine (zo (e := 4) (base := w.heap.size) (ok := fun k_ => (((((some k_ ≠ (.slice Ao15 t249.length co15 : Value).ownBlock ∧ (some k_ ≠ (.slice Ao17 t255.length co17 : Value).ownBlock ∧ some k_ ≠ (.slice Ao18 t258.length co18 : Value).ownBlock)) ∧ some k_ ≠ (.slice Ao27 t273.length co27 : Value).ownBlock) ∧ some k_ ≠ (.slice Ao28 t276.length co28 : Value).ownBlock) ∧ some k_ ≠ (.slice Ao29 t279.length co29 : Value).ownBlock) ∧ some k_ ≠ (.slice Ao30 t282.length co30 : Value).ownBlock)) (n := t252.length) (c := co16) ?_).2.2; exact (by (with_reducible repeat (first | apply ze | apply zj | apply zi)); exact (zm (Kd_R_far7 HO254.out BK287.out (by decide)) (fun _ h_ => h_.1)))); (case side20 => exact (zo HO254.out).2.1); (case side21 => refine (zo (e := 4) (base := w.heap.size) (ok := fun k_ => (((((some k_ ≠ (.slice Ao15 t249.length co15 : Value).ownBlock ∧ (some k_ ≠ (.slice Ao16 t252.length co16 : Value).ownBlock ∧ some k_ ≠ (.slice Ao18 t258.length co18 : Value).ownBlock)) ∧ some k_ ≠ (.slice Ao27 t273.length co27 : Value).ownBlock) ∧ some k_ ≠ (.slice Ao28 t276.length co28 : Value).ownBlock) ∧ some k_ ≠ (.slice Ao29 t279.length co29 : Value).ownBlock) ∧ some k_ ≠ (.slice Ao30 t282.length co30 : Value).ownBlock)) (n := t255.length) (c := co17) ?_).2.2; exact (by (with_reducible repeat (first | apply ze | apply zj | apply zi)); exact (zm (Kd_R_far7 HO257.out BK287.out (by decide)) (fun _ h_ => h_.1)))); (case side22 => exact (zo HO257.out).2.1); (case side23 => refine (zo (e := 4) (base := w.heap.size) (ok := fun k_ => (((((some k_ ≠ (.slice Ao15 t249.length co15 : Value).ownBlock ∧ (some k_ ≠ (.slice Ao16 t252.length co16 : Value).ownBlock ∧ some k_ ≠ (.slice Ao17 t255.length co17 : Value).ownBlock)) ∧ some k_ ≠ (.slice Ao27 t273.length co27 : Value).ownBlock) ∧ some k_ ≠ (.slice Ao28 t276.length co28 : Value).ownBlock) ∧ some k_ ≠ (.slice Ao29 t279.length co29 : Value).ownBlock) ∧ some k_ ≠ (.slice Ao30 t282.length co30 : Value).ownBlock)) (n := t258.length) (c := co18) ?_).2.2; exact (by (with_reducible repeat (first | apply ze | apply zj | apply zi)); exact (zm (Kd_R_far7 HO260.out BK287.out (by decide)) (fun _ h_ => h_.1)))); (case side24 => exact (zo HO260.out).2.1); rintro e w40 ⟨rfl, hb⟩; refine ⟨_, rfl, ?_⟩; have n0_ := za (zh (by (with_reducible repeat (first | apply ze | apply zj | apply zi)); exact (zm (Kd_R_far7 HO242.out BK287.out (by decide)) (fun _ h_ => h_.1))) hb); have n1_ := za (zh (by (with_reducible repeat (first | apply ze | apply zj | apply zi)); exact (zm (Kd_R_far7 HO245.out BK287.out (by decide)) (fun _ h_ => h_.1))) hb); have n2_ := za (zh (by (with_reducible repeat (first | apply ze | apply zj | apply zi)); exact (zm (Kd_R_far7 HO248.out BK287.out (by decide)) (fun _ h_ => h_.1))) hb); have n3_ := za (zh (by (with_reducible repeat (first | apply ze | apply zj | apply zi)); exact (zm (Kd_R_far7 HO251.out BK287.out (by decide)) (fun _ h_ => h_.1))) hb); have n4_ := za (zh (by (with_reducible repeat (first | apply ze | apply zj | apply zi)); exact (zm (Kd_R_far7 HO254.out BK287.out (by decide)) (fun _ h_ => h_.1))) hb); have n5_ := za (zh (by (with_reducible repeat (first | apply ze | apply zj | apply zi)); exact (zm (Kd_R_far7 HO257.out BK287.out (by decide)) (fun _ h_ => h_.1))) hb); have n6_ := za (zh (by (with_reducible repeat (first | apply ze | apply zj | apply zi)); exact (zm (Kd_R_far7 HO260.out BK287.out (by decide)) (fun _ h_ => h_.1))) hb); have n7_ := za (zh (by (with_reducible repeat (first | apply ze | apply zj | apply zi)); exact (zm (Kd_R_far7 HO266.out BK287.out (by decide)) (fun _ h_ => h_.1))) hb); have n8_ := za (zh (by (with_reducible repeat (first | apply ze | apply zj | apply zi)); exact (zm (Kd_R_far7 HO269.out BK287.out (by decide)) (fun _ h_ => h_.1))) hb); have n9_ := za (zh (by (with_reducible repeat (first | apply ze | apply zj | apply zi)); exact (zm (Kd_R_far7 HO272.out BK287.out (by decide)) (fun _ h_ => h_.1))) hb); have n10_ := za (zh (by (with_reducible repeat (first | apply ze | apply zj | apply zi)); exact (zm (Kd_R_far7 HO275.out BK287.out (by decide)) (fun _ h_ => h_.1))) hb); have n11_ := za (zh (by (with_reducible repeat (first | apply ze | apply zj | apply zi)); exact (zm (Kd_R_far7 HO278.out BK287.out (by decide)) (fun _ h_ => h_.1))) hb); have n12_ := za (zh (by (with_reducible repeat (first | apply ze | apply zj | apply zi)); exact (zm (Kd_R_far7 HO281.out BK287.out (by decide)) (fun _ h_ => h_.1))) hb); have n13_ := za (zh (by (with_reducible repeat (first | apply ze | apply zj | apply zi)); exact (zm (Kd_R_far7 HO284.out BK287.out (by decide)) (fun _ h_ => h_.1))) hb); have n14_ := za (zx (g := gb263) (o := .cells #[.slice Ao12 t243.length co12, .slice Ao14 t246.length co14, .slice Ao15 t249.length co15, .slice Ao16 t252.length co16, .slice Ao17 t255.length co17, .slice Ao18 t258.length co18, .int .i64 t261] 31 (0, 0)) (by (with_reducible repeat (first | refine zA ?_ _ | refine zz ?_ | refine zw ?_ _)); refine zB ?_ NB263_287.out _; (with_reducible repeat (first | refine zA ?_ _ | refine zz ?_ | refine zw ?_ _)); refine zB ?_ NB263_287.out _; (with_reducible repeat (first | refine zA ?_ _ | refine zz ?_ | refine zw ?_ _)); refine zB ?_ NB263_287.out _; (with_reducible repeat (first | refine zA ?_ _ | refine zz ?_ | refine zw ?_ _)); refine zB ?_ NB263_287.out _; (with_reducible repeat (first | refine zA ?_ _ | refine zz ?_ | refine zw ?_ _)); refine zB ?_ NB263_287.out _; (with_reducible repeat (first | refine zA ?_ _ | refine zz ?_ | refine zw ?_ _)); refine zB ?_ NB263_287.out _; (with_reducible repeat (first | refine zA ?_ _ | refine zz ?_ | refine zw ?_ _)); refine zB ?_ NB263_287.out _; (with_reducible repeat (first | refine zA ?_ _ | refine zz ?_ | refine zw ?_ _)); exact BK263.out) hb); have n15_ := za (zx (g := gb287) (o := .cells #[.slice Ao23 t267.length co23, .slice Ao26 t270.length co26, .slice Ao27 t273.length co27, .slice Ao28 t276.length co28, .slice Ao29 t279.length co29, .slice Ao30 t282.length co30, .int .i64 t285] 31 (0, 0)) (by (with_reducible repeat (first | refine zA ?_ _ | refine zz ?_ | refine zw ?_ _)); refine blk_put (cs := #[.slice Ao23 t267.length co23, .slice Ao26 t270.length co26, .slice Ao27 t273.length co27, .slice Ao28 t276.length co28, .slice Ao29 t279.length co29, .slice Ao30 t282.length co30, .int .i64 0]) ?_ 6 _ rfl; (with_reducible repeat (first | refine zA ?_ _ | refine zz ?_ | refine zw ?_ _)); refine blk_put (cs := #[.slice Ao23 t267.length co23, .slice Ao26 t270.length co26, .slice Ao27 t273.length co27, .slice Ao28 t276.length co28, .slice Ao29 t279.length co29, .slice none 0 0, .int .i64 0]) ?_ 5 _ rfl; (with_reducible repeat (first | refine zA ?_ _ | refine zz ?_ | refine zw ?_ _)); refine blk_put (cs := #[.slice Ao23 t267.length co23, .slice Ao26 t270.length co26, .slice Ao27 t273.length co27, .slice Ao28 t276.length co28, .slice none 0 0, .slice none 0 0, .int .i64 0]) ?_ 4 _ rfl; (with_reducible repeat (first | refine zA ?_ _ | refine zz ?_ | refine zw ?_ _)); refine blk_put (cs := #[.slice Ao23 t267.length co23, .slice Ao26 t270.length co26, .slice Ao27 t273.length co27, .slice none 0 0, .slice none 0 0, .slice none 0 0, .int .i64 0]) ?_ 3 _ rfl; (with_reducible repeat (first | refine zA ?_ _ | refine zz ?_ | refine zw ?_ _)); refine blk_put (cs := #[.slice Ao23 t267.length co23, .slice Ao26 t270.length co26, .slice none 0 0, .slice none 0 0, .slice none 0 0, .slice none 0 0, .int .i64 0]) ?_ 2 _ rfl; (with_reducible repeat (first | refine zA ?_ _ | refine zz ?_ | refine zw ?_ _)); refine blk_put (cs := #[.slice Ao23 t267.length co23, .slice none 0 0, .slice none 0 0, .slice none 0 0, .slice none 0 0, .slice none 0 0, .int .i64 0]) ?_ 1 _ rfl; (with_reducible repeat (first | refine zA ?_ _ | refine zz ?_ | refine zw ?_ _)); refine blk_put (cs := #[.slice none 0 0, .slice none 0 0, .slice none 0 0, .slice none 0 0, .slice none 0 0, .slice none 0 0, .int .i64 0]) ?_ 0 _ rfl; (with_reducible repeat (first | refine zA ?_ _ | refine zz ?_ | refine zw ?_ _)); exact BK287.out) hb); have n16_ := za (below_step (by repeat (first | (with_reducible first | exact HB.out | apply zs | apply zD | apply zt | refine zu ?_ GE263.out | refine zu ?_ GE287.out) | exact HB.out)) hb); clear HO242; clear HO245; clear HO248; clear HO251; clear HO254; clear HO257; clear HO260; clear HO266; clear HO269; clear HO272; clear HO275; clear HO278; clear HO281; clear HO284; clear BK263; clear BK287; clear HB; have HO242 := n0_; have HO245 := n1_; have HO248 := n2_; have HO251 := n3_; have HO254 := n4_; have HO257 := n5_; have HO260 := n6_; have HO266 := n7_; have HO269 := n8_; have HO272 := n9_; have HO275 := n10_; have HO278 := n11_; have HO281 := n12_; have HO284 := n13_; have BK263 := n14_; have BK287 := n15_; have HB := n16_; clear n0_ n1_ n2_ n3_ n4_ n5_ n6_ n7_ n8_ n9_ n10_ n11_ n12_ n13_ n14_ n15_ n16_; (try clear hb); (try clear hb2); (try clear hk); (try clear hi)))
    go_meet
    case rel => exact ⟨_, (true), (by first | rfl | (simp; done) | (simp [*]; done)), H', ⟨by first | omega | exact Nat.le_refl _⟩, ⟨by (with_reducible repeat (first | apply ze | apply zj | apply zi)); exact zm HO266.out (fun _ hk => ⟨hk.1.2, hk.2⟩)⟩, ⟨by (with_reducible repeat (first | apply ze | apply zj | apply zi)); exact zm HO245.out (fun _ hk => ⟨hk.1.2, hk.2⟩)⟩, ⟨by (with_reducible repeat (first | apply ze | apply zj | apply zi)); exact zm HO248.out (fun _ hk => hk.2)⟩, ⟨by (with_reducible repeat (first | apply ze | apply zj | apply zi)); exact zm HO251.out (fun _ hk => ⟨hk.1.1.1.1.1, ⟨hk.1.1.1.1.2.1, ⟨hk.1.1.1.1.2.2, ⟨hk.1.1.1.2, ⟨hk.1.1.2, ⟨hk.1.2, hk.2⟩⟩⟩⟩⟩⟩)⟩, ⟨by (with_reducible repeat (first | apply ze | apply zj | apply zi)); exact zm HO254.out (fun _ hk => ⟨hk.1.1.1.1.1, ⟨hk.1.1.1.1.2.1, ⟨hk.1.1.1.1.2.2, ⟨hk.1.1.1.2, ⟨hk.1.1.2, ⟨hk.1.2, hk.2⟩⟩⟩⟩⟩⟩)⟩, ⟨by (with_reducible repeat (first | apply ze | apply zj | apply zi)); exact zm HO257.out (fun _ hk => ⟨hk.1.1.1.1.1, ⟨hk.1.1.1.1.2.1, ⟨hk.1.1.1.1.2.2, ⟨hk.1.1.1.2, ⟨hk.1.1.2, ⟨hk.1.2, hk.2⟩⟩⟩⟩⟩⟩)⟩, ⟨by (with_reducible repeat (first | apply ze | apply zj | apply zi)); exact zm HO260.out (fun _ hk => ⟨hk.1.1.1.1.1, ⟨hk.1.1.1.1.2.1, ⟨hk.1.1.1.1.2.2, ⟨hk.1.1.1.2, ⟨hk.1.1.2, ⟨hk.1.2, hk.2⟩⟩⟩⟩⟩⟩)⟩, ⟨by (with_reducible repeat (first | apply ze | apply zj | apply zi)); exact zm HO269.out (fun _ hk => ⟨hk.2, hk.1.2⟩)⟩, ⟨by (with_reducible repeat (first | apply ze | apply zj | apply zi)); exact zm HO272.out (fun _ hk => hk.2)⟩, ⟨by (with_reducible repeat (first | apply ze | apply zj | apply zi)); exact zm HO275.out (fun _ hk => ⟨hk.1.1.1.2, ⟨hk.1.1.2, ⟨hk.1.2, ⟨hk.2, ⟨hk.1.1.1.1.1, ⟨hk.1.1.1.1.2.1, hk.1.1.1.1.2.2⟩⟩⟩⟩⟩⟩)⟩, ⟨by (with_reducible repeat (first | apply ze | apply zj | apply zi)); exact zm HO278.out (fun _ hk => ⟨hk.1.1.1.2, ⟨hk.1.1.2, ⟨hk.1.2, ⟨hk.2, ⟨hk.1.1.1.1.1, ⟨hk.1.1.1.1.2.1, hk.1.1.1.1.2.2⟩⟩⟩⟩⟩⟩)⟩, ⟨by (with_reducible repeat (first | apply ze | apply zj | apply zi)); exact zm HO281.out (fun _ hk => ⟨hk.1.1.1.2, ⟨hk.1.1.2, ⟨hk.1.2, ⟨hk.2, ⟨hk.1.1.1.1.1, ⟨hk.1.1.1.1.2.1, hk.1.1.1.1.2.2⟩⟩⟩⟩⟩⟩)⟩, ⟨by (with_reducible repeat (first | apply ze | apply zj | apply zi)); exact zm HO284.out (fun _ hk => ⟨hk.1.1.1.2, ⟨hk.1.1.2, ⟨hk.1.2, ⟨hk.2, ⟨hk.1.1.1.1.1, ⟨hk.1.1.1.1.2.1, hk.1.1.1.1.2.2⟩⟩⟩⟩⟩⟩)⟩, ⟨by (with_reducible repeat (first | refine zA ?_ _ | refine zz ?_ | refine zw ?_ _)); exact BK263.out⟩, ⟨by (with_reducible repeat (first | refine zA ?_ _ | refine zz ?_ | refine zw ?_ _)); exact BK287.out⟩, ⟨by repeat (first | (with_reducible first | exact HB.out | apply zs | apply zD | apply zt | refine zu ?_ GE263.out | refine zu ?_ GE287.out) | exact HB.out)⟩⟩
  case rest =>
   clear HC7
   try clear c1
   try clear c2
   try clear c2b0
   try clear c2b1
   try clear p2
   try clear c3
   try clear c4
   try clear c15
   try clear c16
   try clear c17
   try clear c18
   try clear c24
   try clear c32
   try clear c33
   try clear c37
   try clear hcz13_0
   try clear hcz13_1
   try clear hcz13_2
   try clear hcz13_3
   try clear hcz13_4
   try clear hcz13_5
   try clear hcz13_6
   try clear hcz25_0
   try clear hcz25_1
   try clear hcz25_2
   try clear hcz25_3
   try clear hcz25_4
   try clear hcz25_5
   try clear hcz25_6
   try clear hcz34_0
   try clear hcz34_1
   try clear hcz34_2
   try clear hcz34_3
   try clear hcz34_4
   try clear hcz34_5
   try clear hcz34_6
   try clear hcz35_0
   try clear hcz35_1
   try clear hcz35_2
   try clear hcz35_3
   try clear hcz35_4
   try clear hcz35_5
   try clear hcz35_6
   try clear hcz38_0
   try clear hcz38_1
   try clear hcz38_2
   try clear hcz38_3
   try clear hcz38_4
   try clear hcz38_5
   try clear hcz38_6
   try clear hcz39_0
   try clear hcz39_1
   try clear hcz39_2
   try clear hcz39_3
   try clear hcz39_4
   try clear hcz39_5
   try clear hcz39_6
   try clear hfz13_0
   try clear hfz13_1
   try clear hfz13_2
   try clear hfz13_3
   try clear hfz13_4
   try clear hfz13_5
   try clear hfz13_6
   try clear hfz25_0
   try clear hfz25_1
   try clear hfz25_2
   try clear hfz25_3
   try clear hfz25_4
   try clear hfz25_5
   try clear hfz25_6
   try clear hfz34_0
   try clear hfz34_1
   try clear hfz34_2
   try clear hfz34_3
   try clear hfz34_4
   try clear hfz34_5
   try clear hfz34_6
   try clear hfz35_0
   try clear hfz35_1
   try clear hfz35_2
   try clear hfz35_3
   try clear hfz35_4
   try clear hfz35_5
   try clear hfz35_6
   try clear hfz38_0
   try clear hfz38_1
   try clear hfz38_2
   try clear hfz38_3
   try clear hfz38_4
   try clear hfz38_5
   try clear hfz38_6
   try clear hfz39_0
   try clear hfz39_1
   try clear hfz39_2
   try clear hfz39_3
   try clear hfz39_4
   try clear hfz39_5
   try clear hfz39_6
   obtain ⟨kq, x37_6, rfl, HA, HJ6, HO_5, HO_264000, HO_264001, HO_264002, HO_264003, HO_264004, HO_264005, HO_288000, HO_288001, HO_288002, HO_288003, HO_288004, HO_288005, BK263, BK287, HB⟩ := hcut
   cases kq with
   | zero => exact absurd HA.out (by simp [laws_FnExactNewData.j0])
   | succ kj6 =>
    have H := HA.out
    clear HA
    simp only [laws_FnExactNewData.j0] at H
    by_cases c41 : x37_6 = true
    ·
     subst c41
     have H1 : (some false) = some r := by rw [if_pos rfl] at H; exact H
     clear H
     have H := H1
     clear H1
     exact absurd ((Option.some.inj H).trans hlaw_.out) (by decide)
    ·
     replace c41 := Bool.eq_false_iff.mpr c41
     subst c41
     have H1 : ((laws_toIntS.f kj6 l0).bind fun t289 => ((laws_eqIntS.f kj6 t264 t289).bind fun t292 => (if t292 = true then ((laws_markIntS.f kj6 t264 1).bind fun bt293 => (if bt293.1 < 0 then (laws_FnExactNewData.j1 kj6 l0 t262 true t243 t246 t249 t252 t255 t258 t261 t267 t270 t273 t276 t279 t282 t285) else ((laws_eqData.f kj6 t267 t270 t273 t276 t279 t282 t285 t243 t246 t249 t252 t255 t258 t261).bind fun t295 => (if t295 = true then (laws_FnExactNewData.j1 kj6 l0 t262 (t286 != t262) t243 t246 t249 t252 t255 t258 t261 t267 t270 t273 t276 t279 t282 t285) else (laws_FnExactNewData.j1 kj6 l0 t262 true t243 t246 t249 t252 t255 t258 t261 t267 t270 t273 t276 t279 t282 t285))))) else (some false)))) = some r := by rw [if_neg (show ¬ (false = true) by decide)] at H; exact H
     clear H
     have H := H1
     clear H1
     replace H := Option.bind_eq_some_iff.mp H
     obtain ⟨t289, A420, H⟩ := H
     replace H : ((laws_eqIntS.f kj6 t264 t289).bind fun t292 => (if t292 = true then ((laws_markIntS.f kj6 t264 1).bind fun bt293 => (if bt293.1 < 0 then (laws_FnExactNewData.j1 kj6 l0 t262 true t243 t246 t249 t252 t255 t258 t261 t267 t270 t273 t276 t279 t282 t285) else ((laws_eqData.f kj6 t267 t270 t273 t276 t279 t282 t285 t243 t246 t249 t252 t255 t258 t261).bind fun t295 => (if t295 = true then (laws_FnExactNewData.j1 kj6 l0 t262 (t286 != t262) t243 t246 t249 t252 t255 t258 t261 t267 t270 t273 t276 t279 t282 t285) else (laws_FnExactNewData.j1 kj6 l0 t262 true t243 t246 t249 t252 t255 t258 t261 t267 t270 t273 t276 t279 t282 t285))))) else (some false))) = some r := H
     have A42 := za A420
     clear A420
     replace H := Option.bind_eq_some_iff.mp H
     obtain ⟨t292, A430, H⟩ := H
     replace H : (if t292 = true then ((laws_markIntS.f kj6 t264 1).bind fun bt293 => (if bt293.1 < 0 then (laws_FnExactNewData.j1 kj6 l0 t262 true t243 t246 t249 t252 t255 t258 t261 t267 t270 t273 t276 t279 t282 t285) else ((laws_eqData.f kj6 t267 t270 t273 t276 t279 t282 t285 t243 t246 t249 t252 t255 t258 t261).bind fun t295 => (if t295 = true then (laws_FnExactNewData.j1 kj6 l0 t262 (t286 != t262) t243 t246 t249 t252 t255 t258 t261 t267 t270 t273 t276 t279 t282 t285) else (laws_FnExactNewData.j1 kj6 l0 t262 true t243 t246 t249 t252 t255 t258 t261 t267 t270 t273 t276 t279 t282 t285))))) else (some false)) = some r := H
     have A43 := za A430
     clear A430
     by_cases c44 : t292 = true
     ·
      subst c44
      have H1 : ((laws_markIntS.f kj6 t264 1).bind fun bt293 => (if bt293.1 < 0 then (laws_FnExactNewData.j1 kj6 l0 t262 true t243 t246 t249 t252 t255 t258 t261 t267 t270 t273 t276 t279 t282 t285) else ((laws_eqData.f kj6 t267 t270 t273 t276 t279 t282 t285 t243 t246 t249 t252 t255 t258 t261).bind fun t295 => (if t295 = true then (laws_FnExactNewData.j1 kj6 l0 t262 (t286 != t262) t243 t246 t249 t252 t255 t258 t261 t267 t270 t273 t276 t279 t282 t285) else (laws_FnExactNewData.j1 kj6 l0 t262 true t243 t246 t249 t252 t255 t258 t261 t267 t270 t273 t276 t279 t282 t285))))) = some r := by rw [if_pos rfl] at H; exact H
      clear H
      have H := H1
      clear H1
      replace H := Option.bind_eq_some_iff.mp H
      obtain ⟨⟨t293, t294⟩, A450, H⟩ := H
      replace H : (if t293 < 0 then (laws_FnExactNewData.j1 kj6 l0 t262 true t243 t246 t249 t252 t255 t258 t261 t267 t270 t273 t276 t279 t282 t285) else ((laws_eqData.f kj6 t267 t270 t273 t276 t279 t282 t285 t243 t246 t249 t252 t255 t258 t261).bind fun t295 => (if t295 = true then (laws_FnExactNewData.j1 kj6 l0 t262 (t286 != t262) t243 t246 t249 t252 t255 t258 t261 t267 t270 t273 t276 t279 t282 t285) else (laws_FnExactNewData.j1 kj6 l0 t262 true t243 t246 t249 t252 t255 t258 t261 t267 t270 t273 t276 t279 t282 t285)))) = some r := H
      have A45 := za A450
      clear A450
      have HC46 := za H
      clear H
      go_upto_region 12 with (first | ((with_reducible refine gate_callee (f := 17) rfl ?_); refine goesL_ (some 40) rfl rfl Try.func17 (by kernel_rfl) rfl #[.slice A0 l0.length c0] rfl (by (try simp only [List.map_toArray, List.map_cons, List.map_nil]); first | done | rfl | (simp only [List.length_drop, List.length_take]; rfl)) ?_; (with_reducible refine (laws_toIntS.calls kj6 _ _ l0 t289 _ ?side1 ?side2 A42.out).mono ?_); (case side1 => repeat (first | exact (Kd.C_below HR0.out HB.out) | (with_reducible refine zb ?_ _) | (with_reducible refine zd ?_ _) | (with_reducible refine zc ?_))); (case side2 => exact HC0.out); rintro e w47 ⟨v290, rfl, ho0, hb⟩; refine ⟨_, rfl, ?_⟩; have n0_ := za (Kd.R_elder' (by (with_reducible repeat (first | apply ze | apply zj | apply zi)); exact HO_5.out) (zg ho0) hb); have n1_ := za (Kd.R_elder' (by (with_reducible repeat (first | apply ze | apply zj | apply zi)); exact HO_264000.out) (zg ho0) hb); have n2_ := za (zh (by (with_reducible repeat (first | apply ze | apply zj | apply zi)); exact HO_264001.out) hb); have n3_ := za (zh (by (with_reducible repeat (first | apply ze | apply zj | apply zi)); exact HO_264002.out) hb); have n4_ := za (zh (by (with_reducible repeat (first | apply ze | apply zj | apply zi)); exact HO_264003.out) hb); have n5_ := za (zh (by (with_reducible repeat (first | apply ze | apply zj | apply zi)); exact HO_264004.out) hb); have n6_ := za (zh (by (with_reducible repeat (first | apply ze | apply zj | apply zi)); exact HO_264005.out) hb); have n7_ := za (Kd.R_elder' (by (with_reducible repeat (first | apply ze | apply zj | apply zi)); exact HO_288000.out) (zg ho0) hb); have n8_ := za (zh (by (with_reducible repeat (first | apply ze | apply zj | apply zi)); exact HO_288001.out) hb); have n9_ := za (zh (by (with_reducible repeat (first | apply ze | apply zj | apply zi)); exact HO_288002.out) hb); have n10_ := za (zh (by (with_reducible repeat (first | apply ze | apply zj | apply zi)); exact HO_288003.out) hb); have n11_ := za (zh (by (with_reducible repeat (first | apply ze | apply zj | apply zi)); exact HO_288004.out) hb); have n12_ := za (zh (by (with_reducible repeat (first | apply ze | apply zj | apply zi)); exact HO_288005.out) hb); have n13_ := za (zk (zn (zn (zn ho0 (zl (by (with_reducible repeat (first | apply ze | apply zj | apply zi)); exact HO_5.out))) (zl (by (with_reducible repeat (first | apply ze | apply zj | apply zi)); exact HO_264000.out))) (zl (by (with_reducible repeat (first | apply ze | apply zj | apply zi)); exact HO_288000.out))) (zv (by repeat (first | (with_reducible first | exact HB.out | apply zs | apply zD | apply zt | refine zu ?_ GE263.out | refine zu ?_ GE287.out) | exact HB.out)))); have n14_ := za (zx (g := gb263) (o := .cells #[.slice Ao12 t243.length co12, .slice Ao14 t246.length co14, .slice Ao15 t249.length co15, .slice Ao16 t252.length co16, .slice Ao17 t255.length co17, .slice Ao18 t258.length co18, .int .i64 t261] 31 (0, 0)) (by (with_reducible repeat (first | refine zA ?_ _ | refine zz ?_ | refine zw ?_ _)); exact BK263.out) hb); have n15_ := za (zx (g := gb287) (o := .cells #[.slice Ao23 t267.length co23, .slice Ao26 t270.length co26, .slice Ao27 t273.length co27, .slice Ao28 t276.length co28, .slice Ao29 t279.length co29, .slice Ao30 t282.length co30, .int .i64 t285] 31 (0, 0)) (by (with_reducible repeat (first | refine zA ?_ _ | refine zz ?_ | refine zw ?_ _)); exact BK287.out) hb); have n16_ := za (below_step (by repeat (first | (with_reducible first | exact HB.out | apply zs | apply zD | apply zt | refine zu ?_ GE263.out | refine zu ?_ GE287.out) | exact HB.out)) hb); clear HO_5; clear HO_264000; clear HO_264001; clear HO_264002; clear HO_264003; clear HO_264004; clear HO_264005; clear HO_288000; clear HO_288001; clear HO_288002; clear HO_288003; clear HO_288004; clear HO_288005; clear BK263; clear BK287; clear HB; have HO_5 := n0_; have HO_264000 := n1_; have HO_264001 := n2_; have HO_264002 := n3_; have HO_264003 := n4_; have HO_264004 := n5_; have HO_264005 := n6_; have HO_288000 := n7_; have HO_288001 := n8_; have HO_288002 := n9_; have HO_288003 := n10_; have HO_288004 := n11_; have HO_288005 := n12_; have HO291 := n13_; have BK263 := n14_; have BK287 := n15_; have HB := n16_; clear n0_ n1_ n2_ n3_ n4_ n5_ n6_ n7_ n8_ n9_ n10_ n11_ n12_ n13_ n14_ n15_ n16_; (try clear hb); (try clear hb2); (try clear hk); (try clear hi); (try clear ho0); obtain ⟨Ao48, co48, eo48⟩ := zp HO291.out; subst eo48) | ((with_reducible refine gate_callee (f := 19) rfl ?_); refine goesL_ (some 41) rfl rfl Try.func19 (by kernel_rfl) rfl #[.slice Ao20 t264.length co20, .slice Ao48 t289.length co48] rfl (by (try simp only [List.map_toArray, List.map_cons, List.map_nil]); first | done | rfl | (simp only [List.length_drop, List.length_take]; rfl)) ?_; (with_reducible refine (laws_eqIntS.calls kj6 _ _ t264 _ _ t289 true _ ?side1 ?side2 ?side3 ?side4 A43.out).mono ?_); (case side1 => repeat (first | exact (zo HO_5.out).2.2 | (with_reducible refine zb ?_ _) | (with_reducible refine zd ?_ _) | (with_reducible refine zc ?_))); (case side2 => exact (zo HO_5.out).2.1); (case side3 => repeat (first | exact (zo HO291.out).2.2 | (with_reducible refine zb ?_ _) | (with_reducible refine zd ?_ _) | (with_reducible refine zc ?_))); (case side4 => exact (zo HO291.out).2.1); rintro e w' ⟨rfl, ⟨nd, rfl⟩⟩; refine ⟨_, rfl, ?_⟩) | ((with_reducible refine gate_callee (f := 20) rfl ?_); refine goesL_ (some 45) rfl rfl Try.func20 (by kernel_rfl) rfl #[.slice Ao20 t264.length co20, .int .i64 1] rfl (by (try simp only [List.map_toArray, List.map_cons, List.map_nil]); first | done | rfl | (simp only [List.length_drop, List.length_take]; rfl)) ?_; (with_reducible refine (laws_markIntS.calls kj6 (fun k_ => some k_ = (.slice Ao20 t264.length co20 : Value).ownBlock) (.slice Ao20 t264.length co20) t264 1 t293 t294 w _ ?side1 ?side2 A45.out).mono ?_); (case side1 => repeat (first | (with_reducible first | exact HB.out | apply zs | apply zD | apply zt | refine zu ?_ GE263.out | refine zu ?_ GE287.out) | exact HB.out)); (case side2 => exact Kd.R_tight rfl HO_5.out); rintro e w49 ⟨rfl, hy0, hb, hkp⟩; refine ⟨_, rfl, ?_⟩; have n0_ := za (Kd.R_reok rfl hy0 (fun k_ e_ => HO_5.out.1 k_ e_)); have n1_ := za (zm (ok' := fun k_ => some k_ ≠ (.slice Ao20 t264.length co20 : Value).ownBlock ∧ some k_ ≠ (.slice Ao23 t267.length co23 : Value).ownBlock ∧ some k_ ≠ (.slice Ao48 t289.length co48 : Value).ownBlock) (Kd.R_keptB (HO_264000.out) hkp (fun k_ hk_ hs_ => (hk_.1.1) hs_)) (fun k_ hk_ => ⟨hk_.1.1.1, hk_.1.1.2, hk_.1.2⟩)); have n2_ := za (zm (ok' := fun k_ => some k_ ≠ (.slice Ao26 t270.length co26 : Value).ownBlock) (Kd.R_keptB ((zf HO_264001.out (zr HO_5.out) (by decide))) hkp (fun k_ hk_ hs_ => (hk_.2) hs_)) (fun k_ hk_ => hk_.1.1)); have n3_ := za (zm (ok' := fun k_ => some k_ ≠ (.slice Ao16 t252.length co16 : Value).ownBlock ∧ some k_ ≠ (.slice Ao17 t255.length co17 : Value).ownBlock ∧ some k_ ≠ (.slice Ao18 t258.length co18 : Value).ownBlock ∧ some k_ ≠ (.slice Ao27 t273.length co27 : Value).ownBlock ∧ some k_ ≠ (.slice Ao28 t276.length co28 : Value).ownBlock ∧ some k_ ≠ (.slice Ao29 t279.length co29 : Value).ownBlock ∧ some k_ ≠ (.slice Ao30 t282.length co30 : Value).ownBlock) (Kd.R_keptB ((zf HO_264002.out (zr HO_5.out) (by decide))) hkp (fun k_ hk_ hs_ => (hk_.2) hs_)) (fun k_ hk_ => ⟨hk_.1.1.1, hk_.1.1.2.1, hk_.1.1.2.2.1, hk_.1.1.2.2.2.1, hk_.1.1.2.2.2.2.1, hk_.1.1.2.2.2.2.2.1, hk_.1.1.2.2.2.2.2.2⟩)); have n4_ := za (zm (ok' := fun k_ => some k_ ≠ (.slice Ao15 t249.length co15 : Value).ownBlock ∧ some k_ ≠ (.slice Ao17 t255.length co17 : Value).ownBlock ∧ some k_ ≠ (.slice Ao18 t258.length co18 : Value).ownBlock ∧ some k_ ≠ (.slice Ao27 t273.length co27 : Value).ownBlock ∧ some k_ ≠ (.slice Ao28 t276.length co28 : Value).ownBlock ∧ some k_ ≠ (.slice Ao29 t279.length co29 : Value).ownBlock ∧ some k_ ≠ (.slice Ao30 t282.length co30 : Value).ownBlock) (Kd.R_keptB ((zf HO_264003.out (zr HO_5.out) (by decide))) hkp (fun k_ hk_ hs_ => (hk_.2) hs_)) (fun k_ hk_ => ⟨hk_.1.1.1, hk_.1.1.2.1, hk_.1.1.2.2.1, hk_.1.1.2.2.2.1, hk_.1.1.2.2.2.2.1, hk_.1.1.2.2.2.2.2.1, hk_.1.1.2.2.2.2.2.2⟩)); have n5_ := za (zm (ok' := fun k_ => some k_ ≠ (.slice Ao15 t249.length co15 : Value).ownBlock ∧ some k_ ≠ (.slice Ao16 t252.length co16 : Value).ownBlock ∧ some k_ ≠ (.slice Ao18 t258.length co18 : Value).ownBlock ∧ some k_ ≠ (.slice Ao27 t273.length co27 : Value).ownBlock ∧ some k_ ≠ (.slice Ao28 t276.length co28 : Value).ownBlock ∧ some k_ ≠ (.slice Ao29 t279.length co29 : Value).ownBlock ∧ some k_ ≠ (.slice Ao30 t282.length co30 : Value).ownBlock) (Kd.R_keptB ((zf HO_264004.out (zr HO_5.out) (by decide))) hkp (fun k_ hk_ hs_ => (hk_.2) hs_)) (fun k_ hk_ => ⟨hk_.1.1.1, hk_.1.1.2.1, hk_.1.1.2.2.1, hk_.1.1.2.2.2.1, hk_.1.1.2.2.2.2.1, hk_.1.1.2.2.2.2.2.1, hk_.1.1.2.2.2.2.2.2⟩)); have n6_ := za (zm (ok' := fun k_ => some k_ ≠ (.slice Ao15 t249.length co15 : Value).ownBlock ∧ some k_ ≠ (.slice Ao16 t252.length co16 : Value).ownBlock ∧ some k_ ≠ (.slice Ao17 t255.length co17 : Value).ownBlock ∧ some k_ ≠ (.slice Ao27 t273.length co27 : Value).ownBlock ∧ some k_ ≠ (.slice Ao28 t276.length co28 : Value).ownBlock ∧ some k_ ≠ (.slice Ao29 t279.length co29 : Value).ownBlock ∧ some k_ ≠ (.slice Ao30 t282.length co30 : Value).ownBlock) (Kd.R_keptB ((zf HO_264005.out (zr HO_5.out) (by decide))) hkp (fun k_ hk_ hs_ => (hk_.2) hs_)) (fun k_ hk_ => ⟨hk_.1.1.1, hk_.1.1.2.1, hk_.1.1.2.2.1, hk_.1.1.2.2.2.1, hk_.1.1.2.2.2.2.1, hk_.1.1.2.2.2.2.2.1, hk_.1.1.2.2.2.2.2.2⟩)); have n7_ := za (zm (ok' := fun k_ => some k_ ≠ (.slice Ao20 t264.length co20 : Value).ownBlock ∧ some k_ ≠ (.slice Ao12 t243.length co12 : Value).ownBlock ∧ some k_ ≠ (.slice Ao48 t289.length co48 : Value).ownBlock) (Kd.R_keptB (HO_288000.out) hkp (fun k_ hk_ hs_ => (hk_.1.1) hs_)) (fun k_ hk_ => ⟨hk_.1.1.1, hk_.1.1.2, hk_.1.2⟩)); have n8_ := za (zm (ok' := fun k_ => some k_ ≠ (.slice Ao14 t246.length co14 : Value).ownBlock) (Kd.R_keptB ((zf HO_288001.out (zr HO_5.out) (by decide))) hkp (fun k_ hk_ hs_ => (hk_.2) hs_)) (fun k_ hk_ => hk_.1.1)); have n9_ := za (zm (ok' := fun k_ => some k_ ≠ (.slice Ao15 t249.length co15 : Value).ownBlock ∧ some k_ ≠ (.slice Ao16 t252.length co16 : Value).ownBlock ∧ some k_ ≠ (.slice Ao17 t255.length co17 : Value).ownBlock ∧ some k_ ≠ (.slice Ao18 t258.length co18 : Value).ownBlock ∧ some k_ ≠ (.slice Ao28 t276.length co28 : Value).ownBlock ∧ some k_ ≠ (.slice Ao29 t279.length co29 : Value).ownBlock ∧ some k_ ≠ (.slice Ao30 t282.length co30 : Value).ownBlock) (Kd.R_keptB ((zf HO_288002.out (zr HO_5.out) (by decide))) hkp (fun k_ hk_ hs_ => (hk_.2) hs_)) (fun k_ hk_ => ⟨hk_.1.1.1, hk_.1.1.2.1, hk_.1.1.2.2.1, hk_.1.1.2.2.2.1, hk_.1.1.2.2.2.2.1, hk_.1.1.2.2.2.2.2.1, hk_.1.1.2.2.2.2.2.2⟩)); have n10_ := za (zm (ok' := fun k_ => some k_ ≠ (.slice Ao15 t249.length co15 : Value).ownBlock ∧ some k_ ≠ (.slice Ao16 t252.length co16 : Value).ownBlock ∧ some k_ ≠ (.slice Ao17 t255.length co17 : Value).ownBlock ∧ some k_ ≠ (.slice Ao18 t258.length co18 : Value).ownBlock ∧ some k_ ≠ (.slice Ao27 t273.length co27 : Value).ownBlock ∧ some k_ ≠ (.slice Ao29 t279.length co29 : Value).ownBlock ∧ some k_ ≠ (.slice Ao30 t282.length co30 : Value).ownBlock) (Kd.R_keptB ((zf HO_288003.out (zr HO_5.out) (by decide))) hkp (fun k_ hk_ hs_ => (hk_.2) hs_)) (fun k_ hk_ => ⟨hk_.1.1.1, hk_.1.1.2.1, hk_.1.1.2.2.1, hk_.1.1.2.2.2.1, hk_.1.1.2.2.2.2.1, hk_.1.1.2.2.2.2.2.1, hk_.1.1.2.2.2.2.2.2⟩)); have n11_ := za (zm (ok' := fun k_ => some k_ ≠ (.slice Ao15 t249.length co15 : Value).ownBlock ∧ some k_ ≠ (.slice Ao16 t252.length co16 : Value).ownBlock ∧ some k_ ≠ (.slice Ao17 t255.length co17 : Value).ownBlock ∧ some k_ ≠ (.slice Ao18 t258.length co18 : Value).ownBlock ∧ some k_ ≠ (.slice Ao27 t273.length co27 : Value).ownBlock ∧ some k_ ≠ (.slice Ao28 t276.length co28 : Value).ownBlock ∧ some k_ ≠ (.slice Ao30 t282.length co30 : Value).ownBlock) (Kd.R_keptB ((zf HO_288004.out (zr HO_5.out) (by decide))) hkp (fun k_ hk_ hs_ => (hk_.2) hs_)) (fun k_ hk_ => ⟨hk_.1.1.1, hk_.1.1.2.1, hk_.1.1.2.2.1, hk_.1.1.2.2.2.1, hk_.1.1.2.2.2.2.1, hk_.1.1.2.2.2.2.2.1, hk_.1.1.2.2.2.2.2.2⟩)); have n12_ := za (zm (ok' := fun k_ => some k_ ≠ (.slice Ao15 t249.length co15 : Value).ownBlock ∧ some k_ ≠ (.slice Ao16 t252.length co16 : Value).ownBlock ∧ some k_ ≠ (.slice Ao17 t255.length co17 : Value).ownBlock ∧ some k_ ≠ (.slice Ao18 t258.length co18 : Value).ownBlock ∧ some k_ ≠ (.slice Ao27 t273.length co27 : Value).ownBlock ∧ some k_ ≠ (.slice Ao28 t276.length co28 : Value).ownBlock ∧ some k_ ≠ (.slice Ao29 t279.length co29 : Value).ownBlock) (Kd.R_keptB ((zf HO_288005.out (zr HO_5.out) (by decide))) hkp (fun k_ hk_ hs_ => (hk_.2) hs_)) (fun k_ hk_ => ⟨hk_.1.1.1, hk_.1.1.2.1, hk_.1.1.2.2.1, hk_.1.1.2.2.2.1, hk_.1.1.2.2.2.2.1, hk_.1.1.2.2.2.2.2.1, hk_.1.1.2.2.2.2.2.2⟩)); have n13_ := za (blk_kept (by (with_reducible repeat (first | refine zA ?_ _ | refine zz ?_ | refine zw ?_ _)); exact BK263.out) hkp (fun hs_ => (fun e_ => (Kd.R_ne HO_5.out BK263.out (by decide)) e_) hs_)); have n14_ := za (blk_kept (by (with_reducible repeat (first | refine zA ?_ _ | refine zz ?_ | refine zw ?_ _)); exact BK287.out) hkp (fun hs_ => (fun e_ => (Kd.R_ne HO_5.out BK287.out (by decide)) e_) hs_)); have n15_ := za (zm (ok' := fun k_ => some k_ ≠ (.slice Ao20 t264.length co20 : Value).ownBlock ∧ some k_ ≠ (.slice Ao12 t243.length co12 : Value).ownBlock ∧ some k_ ≠ (.slice Ao23 t267.length co23 : Value).ownBlock) (Kd.R_keptB (HO291.out) hkp (fun k_ hk_ hs_ => (hk_.1.1.2) hs_)) (fun k_ hk_ => ⟨hk_.1.1.1.2, hk_.1.1.2, hk_.1.2⟩)); have n16_ := za (hb); clear HO_5; clear HO_264000; clear HO_264001; clear HO_264002; clear HO_264003; clear HO_264004; clear HO_264005; clear HO_288000; clear HO_288001; clear HO_288002; clear HO_288003; clear HO_288004; clear HO_288005; clear BK263; clear BK287; clear HO291; clear HB; have HO_5 := n0_; have HO_264000 := n1_; have HO_264001 := n2_; have HO_264002 := n3_; have HO_264003 := n4_; have HO_264004 := n5_; have HO_264005 := n6_; have HO_288000 := n7_; have HO_288001 := n8_; have HO_288002 := n9_; have HO_288003 := n10_; have HO_288004 := n11_; have HO_288005 := n12_; have BK263 := n13_; have BK287 := n14_; have HO291 := n15_; have HB := n16_; clear n0_ n1_ n2_ n3_ n4_ n5_ n6_ n7_ n8_ n9_ n10_ n11_ n12_ n13_ n14_ n15_ n16_; (try clear hb); (try clear hkp); (try clear hy0)))
      (try simp only [Act.put, List.setIfInBounds_toArray, List.set_cons_zero, List.set_cons_succ])
      go_cut [58] (fun v58 wc => ∃ (kq : Nat) (x58_45 : Bool), v58 = .bool x58_45 ∧ Aside0 (laws_FnExactNewData.j1 kq l0 t262 x58_45 t243 t246 t249 t252 t255 t258 t261 t267 t270 t273 t276 t279 t282 t285 = some r) ∧ Aside0 (kq ≤ kj6) ∧ Aside0 (Kd.R (Kd.int .i64) 3 wc w.heap.size (fun k_ => some k_ ≠ ((.slice Ao23 t267.length co23) : Value).ownBlock) (.slice Ao12 t243.length co12) t243) ∧ Aside0 (Kd.R k77 77 wc w.heap.size (fun k_ => some k_ ≠ ((.slice Ao26 t270.length co26) : Value).ownBlock) (.slice Ao14 t246.length co14) t246) ∧ Aside0 (Kd.R Kd.bool 4 wc w.heap.size (fun k_ => some k_ ≠ ((.slice Ao16 t252.length co16) : Value).ownBlock ∧ some k_ ≠ ((.slice Ao17 t255.length co17) : Value).ownBlock ∧ some k_ ≠ ((.slice Ao18 t258.length co18) : Value).ownBlock ∧ some k_ ≠ ((.slice Ao27 t273.length co27) : Value).ownBlock ∧ some k_ ≠ ((.slice Ao28 t276.length co28) : Value).ownBlock ∧ some k_ ≠ ((.slice Ao29 t279.length co29) : Value).ownBlock ∧ some k_ ≠ ((.slice Ao30 t282.length co30) : Value).ownBlock) (.slice Ao15 t249.length co15) t249) ∧ Aside0 (Kd.R Kd.bool 4 wc w.heap.size (fun k_ => some k_ ≠ ((.slice Ao15 t249.length co15) : Value).ownBlock ∧ some k_ ≠ ((.slice Ao17 t255.length co17) : Value).ownBlock ∧ some k_ ≠ ((.slice Ao18 t258.length co18) : Value).ownBlock ∧ some k_ ≠ ((.slice Ao27 t273.length co27) : Value).ownBlock ∧ some k_ ≠ ((.slice Ao28 t276.length co28) : Value).ownBlock ∧ some k_ ≠ ((.slice Ao29 t279.length co29) : Value).ownBlock ∧ some k_ ≠ ((.slice Ao30 t282.length co30) : Value).ownBlock) (.slice Ao16 t252.length co16) t252) ∧ Aside0 (Kd.R Kd.bool 4 wc w.heap.size (fun k_ => some k_ ≠ ((.slice Ao15 t249.length co15) : Value).ownBlock ∧ some k_ ≠ ((.slice Ao16 t252.length co16) : Value).ownBlock ∧ some k_ ≠ ((.slice Ao18 t258.length co18) : Value).ownBlock ∧ some k_ ≠ ((.slice Ao27 t273.length co27) : Value).ownBlock ∧ some k_ ≠ ((.slice Ao28 t276.length co28) : Value).ownBlock ∧ some k_ ≠ ((.slice Ao29 t279.length co29) : Value).ownBlock ∧ some k_ ≠ ((.slice Ao30 t282.length co30) : Value).ownBlock) (.slice Ao17 t255.length co17) t255) ∧ Aside0 (Kd.R Kd.bool 4 wc w.heap.size (fun k_ => some k_ ≠ ((.slice Ao15 t249.length co15) : Value).ownBlock ∧ some k_ ≠ ((.slice Ao16 t252.length co16) : Value).ownBlock ∧ some k_ ≠ ((.slice Ao17 t255.length co17) : Value).ownBlock ∧ some k_ ≠ ((.slice Ao27 t273.length co27) : Value).ownBlock ∧ some k_ ≠ ((.slice Ao28 t276.length co28) : Value).ownBlock ∧ some k_ ≠ ((.slice Ao29 t279.length co29) : Value).ownBlock ∧ some k_ ≠ ((.slice Ao30 t282.length co30) : Value).ownBlock) (.slice Ao18 t258.length co18) t258) ∧ Aside0 (Kd.R (Kd.int .i64) 3 wc w.heap.size (fun k_ => some k_ ≠ ((.slice Ao12 t243.length co12) : Value).ownBlock) (.slice Ao23 t267.length co23) t267) ∧ Aside0 (Kd.R k77 77 wc w.heap.size (fun k_ => some k_ ≠ ((.slice Ao14 t246.length co14) : Value).ownBlock) (.slice Ao26 t270.length co26) t270) ∧ Aside0 (Kd.R Kd.bool 4 wc w.heap.size (fun k_ => some k_ ≠ ((.slice Ao15 t249.length co15) : Value).ownBlock ∧ some k_ ≠ ((.slice Ao16 t252.length co16) : Value).ownBlock ∧ some k_ ≠ ((.slice Ao17 t255.length co17) : Value).ownBlock ∧ some k_ ≠ ((.slice Ao18 t258.length co18) : Value).ownBlock ∧ some k_ ≠ ((.slice Ao28 t276.length co28) : Value).ownBlock ∧ some k_ ≠ ((.slice Ao29 t279.length co29) : Value).ownBlock ∧ some k_ ≠ ((.slice Ao30 t282.length co30) : Value).ownBlock) (.slice Ao27 t273.length co27) t273) ∧ Aside0 (Kd.R Kd.bool 4 wc w.heap.size (fun k_ => some k_ ≠ ((.slice Ao15 t249.length co15) : Value).ownBlock ∧ some k_ ≠ ((.slice Ao16 t252.length co16) : Value).ownBlock ∧ some k_ ≠ ((.slice Ao17 t255.length co17) : Value).ownBlock ∧ some k_ ≠ ((.slice Ao18 t258.length co18) : Value).ownBlock ∧ some k_ ≠ ((.slice Ao27 t273.length co27) : Value).ownBlock ∧ some k_ ≠ ((.slice Ao29 t279.length co29) : Value).ownBlock ∧ some k_ ≠ ((.slice Ao30 t282.length co30) : Value).ownBlock) (.slice Ao28 t276.length co28) t276) ∧ Aside0 (Kd.R Kd.bool 4 wc w.heap.size (fun k_ => some k_ ≠ ((.slice Ao15 t249.length co15) : Value).ownBlock ∧ some k_ ≠ ((.slice Ao16 t252.length co16) : Value).ownBlock ∧ some k_ ≠ ((.slice Ao17 t255.length co17) : Value).ownBlock ∧ some k_ ≠ ((.slice Ao18 t258.length co18) : Value).ownBlock ∧ some k_ ≠ ((.slice Ao27 t273.length co27) : Value).ownBlock ∧ some k_ ≠ ((.slice Ao28 t276.length co28) : Value).ownBlock ∧ some k_ ≠ ((.slice Ao30 t282.length co30) : Value).ownBlock) (.slice Ao29 t279.length co29) t279) ∧ Aside0 (Kd.R Kd.bool 4 wc w.heap.size (fun k_ => some k_ ≠ ((.slice Ao15 t249.length co15) : Value).ownBlock ∧ some k_ ≠ ((.slice Ao16 t252.length co16) : Value).ownBlock ∧ some k_ ≠ ((.slice Ao17 t255.length co17) : Value).ownBlock ∧ some k_ ≠ ((.slice Ao18 t258.length co18) : Value).ownBlock ∧ some k_ ≠ ((.slice Ao27 t273.length co27) : Value).ownBlock ∧ some k_ ≠ ((.slice Ao28 t276.length co28) : Value).ownBlock ∧ some k_ ≠ ((.slice Ao29 t279.length co29) : Value).ownBlock) (.slice Ao30 t282.length co30) t282) ∧ Aside0 (wc.heap[gb263]? = some (.cells #[(.slice Ao12 t243.length co12), (.slice Ao14 t246.length co14), (.slice Ao15 t249.length co15), (.slice Ao16 t252.length co16), (.slice Ao17 t255.length co17), (.slice Ao18 t258.length co18), .int .i64 t261] 31 (0, 0))) ∧ Aside0 (wc.heap[gb287]? = some (.cells #[(.slice Ao23 t267.length co23), (.slice Ao26 t270.length co26), (.slice Ao27 t273.length co27), (.slice Ao28 t276.length co28), (.slice Ao29 t279.length co29), (.slice Ao30 t282.length co30), .int .i64 t285] 31 (0, 0))) ∧ Aside0 (Below w.heap.size w wc))
      case first =>
       have H := HC46.out
       clear HC46
       by_cases c50 : t293 < 0
       ·
        rw [if_pos c50] at H
        have c50b0 : decide (t293 < 0) = true := decide_eq_true c50
        clear c50
        (first | rw [c50b0] | (simp only [i64_w, i32_w]; rw [c50b0]) | skip)
        have H' := za H
        clear H
        go_wp2
        (first | go_meet | (refine Met.intro ?_; go_step; (repeat apply Exists.intro); refine ⟨?rel, ?eqm_⟩; (case eqm_ => (simp only [c50b0]; rfl))))
        case rel => exact ⟨_, (true), (by first | rfl | (simp; done) | (simp [*]; done)), H', ⟨by have := HJ6.out; first | omega | exact Nat.le_refl _⟩, ⟨by (with_reducible repeat (first | apply ze | apply zj | apply zi)); exact zm HO_264000.out (fun _ hk => hk.2.1)⟩, ⟨by (with_reducible repeat (first | apply ze | apply zj | apply zi)); exact HO_264001.out⟩, ⟨by (with_reducible repeat (first | apply ze | apply zj | apply zi)); exact HO_264002.out⟩, ⟨by (with_reducible repeat (first | apply ze | apply zj | apply zi)); exact HO_264003.out⟩, ⟨by (with_reducible repeat (first | apply ze | apply zj | apply zi)); exact HO_264004.out⟩, ⟨by (with_reducible repeat (first | apply ze | apply zj | apply zi)); exact HO_264005.out⟩, ⟨by (with_reducible repeat (first | apply ze | apply zj | apply zi)); exact zm HO_288000.out (fun _ hk => hk.2.1)⟩, ⟨by (with_reducible repeat (first | apply ze | apply zj | apply zi)); exact HO_288001.out⟩, ⟨by (with_reducible repeat (first | apply ze | apply zj | apply zi)); exact HO_288002.out⟩, ⟨by (with_reducible repeat (first | apply ze | apply zj | apply zi)); exact HO_288003.out⟩, ⟨by (with_reducible repeat (first | apply ze | apply zj | apply zi)); exact HO_288004.out⟩, ⟨by (with_reducible repeat (first | apply ze | apply zj | apply zi)); exact HO_288005.out⟩, ⟨by (with_reducible repeat (first | refine zA ?_ _ | refine zz ?_ | refine zw ?_ _)); exact BK263.out⟩, ⟨by (with_reducible repeat (first | refine zA ?_ _ | refine zz ?_ | refine zw ?_ _)); exact BK287.out⟩, ⟨by repeat (first | (with_reducible first | exact HB.out | apply zs | apply zD | apply zt | refine zu ?_ GE263.out | refine zu ?_ GE287.out) | exact HB.out)⟩⟩
       ·
        rw [if_neg c50] at H
        have c50b0 : decide (t293 < 0) = false := decide_eq_false c50
        clear c50
        (first | rw [c50b0] | (simp only [i64_w, i32_w]; rw [c50b0]) | skip)
        replace H := Option.bind_eq_some_iff.mp H
        obtain ⟨t295, A510, H⟩ := H
        replace H : (if t295 = true then (laws_FnExactNewData.j1 kj6 l0 t262 (t286 != t262) t243 t246 t249 t252 t255 t258 t261 t267 t270 t273 t276 t279 t282 t285) else (laws_FnExactNewData.j1 kj6 l0 t262 true t243 t246 t249 t252 t255 t258 t261 t267 t270 t273 t276 t279 t282 t285)) = some r := H
        have A51 := za A510
        clear A510
        by_cases c52 : t295 = true
        ·
         subst c52
         have H1 : (laws_FnExactNewData.j1 kj6 l0 t262 (t286 != t262) t243 t246 t249 t252 t255 t258 t261 t267 t270 t273 t276 t279 t282 t285) = some r := by rw [if_pos rfl] at H; exact H
         clear H
         have H := H1
         clear H1
         have H' := za H
         clear H
         have hnb53 := NB287_263.out
         have hnc53 := NB263_287.out
         have hcz54_0 : w49.cell? ⟨gb287, 0, none⟩ = some (.slice Ao23 t267.length co23) := (zy BK287.out 0).trans rfl
         have hcz54_1 : w49.cell? ⟨gb287, 1, none⟩ = some (.slice Ao26 t270.length co26) := (zy BK287.out 1).trans rfl
         have hcz54_2 : w49.cell? ⟨gb287, 2, none⟩ = some (.slice Ao27 t273.length co27) := (zy BK287.out 2).trans rfl
         have hcz54_3 : w49.cell? ⟨gb287, 3, none⟩ = some (.slice Ao28 t276.length co28) := (zy BK287.out 3).trans rfl
         have hcz54_4 : w49.cell? ⟨gb287, 4, none⟩ = some (.slice Ao29 t279.length co29) := (zy BK287.out 4).trans rfl
         have hcz54_5 : w49.cell? ⟨gb287, 5, none⟩ = some (.slice Ao30 t282.length co30) := (zy BK287.out 5).trans rfl
         have hcz54_6 : w49.cell? ⟨gb287, 6, none⟩ = some (.int .i64 t285) := (zy BK287.out 6).trans rfl
         have hfz54_0 := zC BK287.out 0
         have hfz54_1 := zC BK287.out 1
         have hfz54_2 := zC BK287.out 2
         have hfz54_3 := zC BK287.out 3
         have hfz54_4 := zC BK287.out 4
         have hfz54_5 := zC BK287.out 5
         have hfz54_6 := zC BK287.out 6
         have hcz55_0 : w49.cell? ⟨gb263, 0, none⟩ = some (.slice Ao12 t243.length co12) := (zy BK263.out 0).trans rfl
         have hcz55_1 : w49.cell? ⟨gb263, 1, none⟩ = some (.slice Ao14 t246.length co14) := (zy BK263.out 1).trans rfl
         have hcz55_2 : w49.cell? ⟨gb263, 2, none⟩ = some (.slice Ao15 t249.length co15) := (zy BK263.out 2).trans rfl
         have hcz55_3 : w49.cell? ⟨gb263, 3, none⟩ = some (.slice Ao16 t252.length co16) := (zy BK263.out 3).trans rfl
         have hcz55_4 : w49.cell? ⟨gb263, 4, none⟩ = some (.slice Ao17 t255.length co17) := (zy BK263.out 4).trans rfl
         have hcz55_5 : w49.cell? ⟨gb263, 5, none⟩ = some (.slice Ao18 t258.length co18) := (zy BK263.out 5).trans rfl
         have hcz55_6 : w49.cell? ⟨gb263, 6, none⟩ = some (.int .i64 t261) := (zy BK263.out 6).trans rfl
         have hfz55_0 := zC BK263.out 0
         have hfz55_1 := zC BK263.out 1
         have hfz55_2 := zC BK263.out 2
         have hfz55_3 := zC BK263.out 3
         have hfz55_4 := zC BK263.out 4
         have hfz55_5 := zC BK263.out 5
         have hfz55_6 := zC BK263.out 6
         go_wp2_with (first | (go_at_call 15; (with_reducible refine (laws_eqData.calls kj6 _ _ t267 _ _ t270 _ _ t273 _ _ t276 _ _ t279 _ _ t282 t285 _ _ t243 _ _ t246 _ _ t249 _ _ t252 _ _ t255 _ _ t258 t261 true _ ?side1 ?side2 ?side3 ?side4 ?side5 ?side6 ?side7 ?side8 ?side9 ?side10 ?side11 ?side12 ?side13 ?side14 ?side15 ?side16 ?side17 ?side18 ?side19 ?side20 ?side21 ?side22 ?side23 ?side24 A51.out).mono ?_); (case side1 => repeat (first | exact (zo HO_288000.out).2.2 | (with_reducible refine zb ?_ _) | (with_reducible refine zd ?_ _) | (with_reducible refine zc ?_))); (case side2 => exact (zo HO_288000.out).2.1); (case side3 => repeat (first | exact (zo HO_288001.out).2.2 | (with_reducible refine zb ?_ _) | (with_reducible refine zd ?_ _) | (with_reducible refine zc ?_))); (case side4 => exact (zo HO_288001.out).2.1); (case side5 => repeat (first | exact (zo HO_288002.out).2.2 | (with_reducible refine zb ?_ _) | (with_reducible refine zd ?_ _) | (with_reducible refine zc ?_))); (case side6 => exact (zo HO_288002.out).2.1); (case side7 => repeat (first | exact (zo HO_288003.out).2.2 | (with_reducible refine zb ?_ _) | (with_reducible refine zd ?_ _) | (with_reducible refine zc ?_))); (case side8 => exact (zo HO_288003.out).2.1); (case side9 => repeat (first | exact (zo HO_288004.out).2.2 | (with_reducible refine zb ?_ _) | (with_reducible refine zd ?_ _) | (with_reducible refine zc ?_))); (case side10 => exact (zo HO_288004.out).2.1); (case side11 => repeat (first | exact (zo HO_288005.out).2.2 | (with_reducible refine zb ?_ _) | (with_reducible refine zd ?_ _) | (with_reducible refine zc ?_))); (case side12 => exact (zo HO_288005.out).2.1); (case side13 => repeat (first | exact (zo HO_264000.out).2.2 | (with_reducible refine zb ?_ _) | (with_reducible refine zd ?_ _) | (with_reducible refine zc ?_))); (case side14 => exact (zo HO_264000.out).2.1); (case side15 => repeat (first | exact (zo HO_264001.out).2.2 | (with_reducible refine zb ?_ _) | (with_reducible refine zd ?_ _) | (with_reducible refine zc ?_))); (case side16 => exact (zo HO_264001.out).2.1); (case side17 => repeat (first | exact (zo HO_264002.out).2.2 | (with_reducible refine zb ?_ _) | (with_reducible refine zd ?_ _) | (with_reducible refine zc ?_))); (case side18 => exact (zo HO_264002.out).2.1); (case side19 => repeat (first | exact (zo HO_264003.out).2.2 | (with_reducible refine zb ?_ _) | (with_reducible refine zd ?_ _) | (with_reducible refine zc ?_))); (case side20 => exact (zo HO_264003.out).2.1); (case side21 => repeat (first | exact (zo HO_264004.out).2.2 | (with_reducible refine zb ?_ _) | (with_reducible refine zd ?_ _) | (with_reducible refine zc ?_))); (case side22 => exact (zo HO_264004.out).2.1); (case side23 => repeat (first | exact (zo HO_264005.out).2.2 | (with_reducible refine zb ?_ _) | (with_reducible refine zd ?_ _) | (with_reducible refine zc ?_))); (case side24 => exact (zo HO_264005.out).2.1); rintro e w56 ⟨rfl, hb⟩; have n0_ := za (zh (by (with_reducible repeat (first | apply ze | apply zj | apply zi)); exact HO_5.out) hb); have n1_ := za (zh (by (with_reducible repeat (first | apply ze | apply zj | apply zi)); exact HO_264000.out) hb); have n2_ := za (zh (by (with_reducible repeat (first | apply ze | apply zj | apply zi)); exact HO_264001.out) hb); have n3_ := za (zh (by (with_reducible repeat (first | apply ze | apply zj | apply zi)); exact HO_264002.out) hb); have n4_ := za (zh (by (with_reducible repeat (first | apply ze | apply zj | apply zi)); exact HO_264003.out) hb); have n5_ := za (zh (by (with_reducible repeat (first | apply ze | apply zj | apply zi)); exact HO_264004.out) hb); have n6_ := za (zh (by (with_reducible repeat (first | apply ze | apply zj | apply zi)); exact HO_264005.out) hb); have n7_ := za (zh (by (with_reducible repeat (first | apply ze | apply zj | apply zi)); exact HO_288000.out) hb); have n8_ := za (zh (by (with_reducible repeat (first | apply ze | apply zj | apply zi)); exact HO_288001.out) hb); have n9_ := za (zh (by (with_reducible repeat (first | apply ze | apply zj | apply zi)); exact HO_288002.out) hb); have n10_ := za (zh (by (with_reducible repeat (first | apply ze | apply zj | apply zi)); exact HO_288003.out) hb); have n11_ := za (zh (by (with_reducible repeat (first | apply ze | apply zj | apply zi)); exact HO_288004.out) hb); have n12_ := za (zh (by (with_reducible repeat (first | apply ze | apply zj | apply zi)); exact HO_288005.out) hb); have n13_ := za (zh (by (with_reducible repeat (first | apply ze | apply zj | apply zi)); exact HO291.out) hb); have n14_ := za (zx (g := gb263) (o := .cells #[.slice Ao12 t243.length co12, .slice Ao14 t246.length co14, .slice Ao15 t249.length co15, .slice Ao16 t252.length co16, .slice Ao17 t255.length co17, .slice Ao18 t258.length co18, .int .i64 t261] 31 (0, 0)) (by (with_reducible repeat (first | refine zA ?_ _ | refine zz ?_ | refine zw ?_ _)); exact BK263.out) hb); have n15_ := za (zx (g := gb287) (o := .cells #[.slice Ao23 t267.length co23, .slice Ao26 t270.length co26, .slice Ao27 t273.length co27, .slice Ao28 t276.length co28, .slice Ao29 t279.length co29, .slice Ao30 t282.length co30, .int .i64 t285] 31 (0, 0)) (by (with_reducible repeat (first | refine zA ?_ _ | refine zz ?_ | refine zw ?_ _)); exact BK287.out) hb); have n16_ := za (below_step (by repeat (first | (with_reducible first | exact HB.out | apply zs | apply zD | apply zt | refine zu ?_ GE263.out | refine zu ?_ GE287.out) | exact HB.out)) hb); clear HO_5; clear HO_264000; clear HO_264001; clear HO_264002; clear HO_264003; clear HO_264004; clear HO_264005; clear HO_288000; clear HO_288001; clear HO_288002; clear HO_288003; clear HO_288004; clear HO_288005; clear HO291; clear BK263; clear BK287; clear HB; have HO_5 := n0_; have HO_264000 := n1_; have HO_264001 := n2_; have HO_264002 := n3_; have HO_264003 := n4_; have HO_264004 := n5_; have HO_264005 := n6_; have HO_288000 := n7_; have HO_288001 := n8_; have HO_288002 := n9_; have HO_288003 := n10_; have HO_288004 := n11_; have HO_288005 := n12_; have HO291 := n13_; have BK263 := n14_; have BK287 := n15_; have HB := n16_; clear n0_ n1_ n2_ n3_ n4_ n5_ n6_ n7_ n8_ n9_ n10_ n11_ n12_ n13_ n14_ n15_ n16_; (try clear hb); (try clear hb2); (try clear hk); (try clear hi)))
         (first | go_meet | (refine Met.intro ?_; go_step; (repeat apply Exists.intro); refine ⟨?rel, ?eqm_⟩; (case eqm_ => (simp only [c50b0]; rfl))))
         case rel => exact ⟨_, ((t286 != t262)), (by first | rfl | (simp; done) | (simp [*]; done)), H', ⟨by have := HJ6.out; first | omega | exact Nat.le_refl _⟩, ⟨by (with_reducible repeat (first | apply ze | apply zj | apply zi)); exact zm HO_264000.out (fun _ hk => hk.2.1)⟩, ⟨by (with_reducible repeat (first | apply ze | apply zj | apply zi)); exact HO_264001.out⟩, ⟨by (with_reducible repeat (first | apply ze | apply zj | apply zi)); exact HO_264002.out⟩, ⟨by (with_reducible repeat (first | apply ze | apply zj | apply zi)); exact HO_264003.out⟩, ⟨by (with_reducible repeat (first | apply ze | apply zj | apply zi)); exact HO_264004.out⟩, ⟨by (with_reducible repeat (first | apply ze | apply zj | apply zi)); exact HO_264005.out⟩, ⟨by (with_reducible repeat (first | apply ze | apply zj | apply zi)); exact zm HO_288000.out (fun _ hk => hk.2.1)⟩, ⟨by (with_reducible repeat (first | apply ze | apply zj | apply zi)); exact HO_288001.out⟩, ⟨by (with_reducible repeat (first | apply ze | apply zj | apply zi)); exact HO_288002.out⟩, ⟨by (with_reducible repeat (first | apply ze | apply zj | apply zi)); exact HO_288003.out⟩, ⟨by (with_reducible repeat (first | apply ze | apply zj | apply zi)); exact HO_288004.out⟩, ⟨by (with_reducible repeat (first | apply ze | apply zj | apply zi)); exact HO_288005.out⟩, ⟨by (with_reducible repeat (first | refine zA ?_ _ | refine zz ?_ | refine zw ?_ _)); exact BK263.out⟩, ⟨by (with_reducible repeat (first | refine zA ?_ _ | refine zz ?_ | refine zw ?_ _)); exact BK287.out⟩, ⟨by repeat (first | (with_reducible first | exact HB.out | apply zs | apply zD | apply zt | refine zu ?_ GE263.out | refine zu ?_ GE287.out) | exact HB.out)⟩⟩
        ·
         replace c52 := Bool.eq_false_iff.mpr c52
         subst c52
         have H1 : (laws_FnExactNewData.j1 kj6 l0 t262 true t243 t246 t249 t252 t255 t258 t261 t267 t270 t273 t276 t279 t282 t285) = some r := by rw [if_neg (show ¬ (false = true) by decide)] at H; exact H
         clear H
         have H := H1
         clear H1
         have H' := za H
         clear H
         have hnb57 := NB287_263.out
         have hnc57 := NB263_287.out
         have hcz58_0 : w49.cell? ⟨gb287, 0, none⟩ = some (.slice Ao23 t267.length co23) := (zy BK287.out 0).trans rfl
         have hcz58_1 : w49.cell? ⟨gb287, 1, none⟩ = some (.slice Ao26 t270.length co26) := (zy BK287.out 1).trans rfl
         have hcz58_2 : w49.cell? ⟨gb287, 2, none⟩ = some (.slice Ao27 t273.length co27) := (zy BK287.out 2).trans rfl
         have hcz58_3 : w49.cell? ⟨gb287, 3, none⟩ = some (.slice Ao28 t276.length co28) := (zy BK287.out 3).trans rfl
         have hcz58_4 : w49.cell? ⟨gb287, 4, none⟩ = some (.slice Ao29 t279.length co29) := (zy BK287.out 4).trans rfl
         have hcz58_5 : w49.cell? ⟨gb287, 5, none⟩ = some (.slice Ao30 t282.length co30) := (zy BK287.out 5).trans rfl
         have hcz58_6 : w49.cell? ⟨gb287, 6, none⟩ = some (.int .i64 t285) := (zy BK287.out 6).trans rfl
         have hfz58_0 := zC BK287.out 0
         have hfz58_1 := zC BK287.out 1
         have hfz58_2 := zC BK287.out 2
         have hfz58_3 := zC BK287.out 3
         have hfz58_4 := zC BK287.out 4
         have hfz58_5 := zC BK287.out 5
         have hfz58_6 := zC BK287.out 6
         have hcz59_0 : w49.cell? ⟨gb263, 0, none⟩ = some (.slice Ao12 t243.length co12) := (zy BK263.out 0).trans rfl
         have hcz59_1 : w49.cell? ⟨gb263, 1, none⟩ = some (.slice Ao14 t246.length co14) := (zy BK263.out 1).trans rfl
         have hcz59_2 : w49.cell? ⟨gb263, 2, none⟩ = some (.slice Ao15 t249.length co15) := (zy BK263.out 2).trans rfl
         have hcz59_3 : w49.cell? ⟨gb263, 3, none⟩ = some (.slice Ao16 t252.length co16) := (zy BK263.out 3).trans rfl
         have hcz59_4 : w49.cell? ⟨gb263, 4, none⟩ = some (.slice Ao17 t255.length co17) := (zy BK263.out 4).trans rfl
         have hcz59_5 : w49.cell? ⟨gb263, 5, none⟩ = some (.slice Ao18 t258.length co18) := (zy BK263.out 5).trans rfl
         have hcz59_6 : w49.cell? ⟨gb263, 6, none⟩ = some (.int .i64 t261) := (zy BK263.out 6).trans rfl
         have hfz59_0 := zC BK263.out 0
         have hfz59_1 := zC BK263.out 1
         have hfz59_2 := zC BK263.out 2
         have hfz59_3 := zC BK263.out 3
         have hfz59_4 := zC BK263.out 4
         have hfz59_5 := zC BK263.out 5
         have hfz59_6 := zC BK263.out 6
         go_wp2_with (first | (go_at_call 15; (with_reducible refine (laws_eqData.calls kj6 _ _ t267 _ _ t270 _ _ t273 _ _ t276 _ _ t279 _ _ t282 t285 _ _ t243 _ _ t246 _ _ t249 _ _ t252 _ _ t255 _ _ t258 t261 false _ ?side1 ?side2 ?side3 ?side4 ?side5 ?side6 ?side7 ?side8 ?side9 ?side10 ?side11 ?side12 ?side13 ?side14 ?side15 ?side16 ?side17 ?side18 ?side19 ?side20 ?side21 ?side22 ?side23 ?side24 A51.out).mono ?_); (case side1 => repeat (first | exact (zo HO_288000.out).2.2 | (with_reducible refine zb ?_ _) | (with_reducible refine zd ?_ _) | (with_reducible refine zc ?_))); (case side2 => exact (zo HO_288000.out).2.1); (case side3 => repeat (first | exact (zo HO_288001.out).2.2 | (with_reducible refine zb ?_ _) | (with_reducible refine zd ?_ _) | (with_reducible refine zc ?_))); (case side4 => exact (zo HO_288001.out).2.1); (case side5 => repeat (first | exact (zo HO_288002.out).2.2 | (with_reducible refine zb ?_ _) | (with_reducible refine zd ?_ _) | (with_reducible refine zc ?_))); (case side6 => exact (zo HO_288002.out).2.1); (case side7 => repeat (first | exact (zo HO_288003.out).2.2 | (with_reducible refine zb ?_ _) | (with_reducible refine zd ?_ _) | (with_reducible refine zc ?_))); (case side8 => exact (zo HO_288003.out).2.1); (case side9 => repeat (first | exact (zo HO_288004.out).2.2 | (with_reducible refine zb ?_ _) | (with_reducible refine zd ?_ _) | (with_reducible refine zc ?_))); (case side10 => exact (zo HO_288004.out).2.1); (case side11 => repeat (first | exact (zo HO_288005.out).2.2 | (with_reducible refine zb ?_ _) | (with_reducible refine zd ?_ _) | (with_reducible refine zc ?_))); (case side12 => exact (zo HO_288005.out).2.1); (case side13 => repeat (first | exact (zo HO_264000.out).2.2 | (with_reducible refine zb ?_ _) | (with_reducible refine zd ?_ _) | (with_reducible refine zc ?_))); (case side14 => exact (zo HO_264000.out).2.1); (case side15 => repeat (first | exact (zo HO_264001.out).2.2 | (with_reducible refine zb ?_ _) | (with_reducible refine zd ?_ _) | (with_reducible refine zc ?_))); (case side16 => exact (zo HO_264001.out).2.1); (case side17 => repeat (first | exact (zo HO_264002.out).2.2 | (with_reducible refine zb ?_ _) | (with_reducible refine zd ?_ _) | (with_reducible refine zc ?_))); (case side18 => exact (zo HO_264002.out).2.1); (case side19 => repeat (first | exact (zo HO_264003.out).2.2 | (with_reducible refine zb ?_ _) | (with_reducible refine zd ?_ _) | (with_reducible refine zc ?_))); (case side20 => exact (zo HO_264003.out).2.1); (case side21 => repeat (first | exact (zo HO_264004.out).2.2 | (with_reducible refine zb ?_ _) | (with_reducible refine zd ?_ _) | (with_reducible refine zc ?_))); (case side22 => exact (zo HO_264004.out).2.1); (case side23 => repeat (first | exact (zo HO_264005.out).2.2 | (with_reducible refine zb ?_ _) | (with_reducible refine zd ?_ _) | (with_reducible refine zc ?_))); (case side24 => exact (zo HO_264005.out).2.1); rintro e w60 ⟨rfl, hb⟩; have n0_ := za (zh (by (with_reducible repeat (first | apply ze | apply zj | apply zi)); exact HO_5.out) hb); have n1_ := za (zh (by (with_reducible repeat (first | apply ze | apply zj | apply zi)); exact HO_264000.out) hb); have n2_ := za (zh (by (with_reducible repeat (first | apply ze | apply zj | apply zi)); exact HO_264001.out) hb); have n3_ := za (zh (by (with_reducible repeat (first | apply ze | apply zj | apply zi)); exact HO_264002.out) hb); have n4_ := za (zh (by (with_reducible repeat (first | apply ze | apply zj | apply zi)); exact HO_264003.out) hb); have n5_ := za (zh (by (with_reducible repeat (first | apply ze | apply zj | apply zi)); exact HO_264004.out) hb); have n6_ := za (zh (by (with_reducible repeat (first | apply ze | apply zj | apply zi)); exact HO_264005.out) hb); have n7_ := za (zh (by (with_reducible repeat (first | apply ze | apply zj | apply zi)); exact HO_288000.out) hb); have n8_ := za (zh (by (with_reducible repeat (first | apply ze | apply zj | apply zi)); exact HO_288001.out) hb); have n9_ := za (zh (by (with_reducible repeat (first | apply ze | apply zj | apply zi)); exact HO_288002.out) hb); have n10_ := za (zh (by (with_reducible repeat (first | apply ze | apply zj | apply zi)); exact HO_288003.out) hb); have n11_ := za (zh (by (with_reducible repeat (first | apply ze | apply zj | apply zi)); exact HO_288004.out) hb); have n12_ := za (zh (by (with_reducible repeat (first | apply ze | apply zj | apply zi)); exact HO_288005.out) hb); have n13_ := za (zh (by (with_reducible repeat (first | apply ze | apply zj | apply zi)); exact HO291.out) hb); have n14_ := za (zx (g := gb263) (o := .cells #[.slice Ao12 t243.length co12, .slice Ao14 t246.length co14, .slice Ao15 t249.length co15, .slice Ao16 t252.length co16, .slice Ao17 t255.length co17, .slice Ao18 t258.length co18, .int .i64 t261] 31 (0, 0)) (by (with_reducible repeat (first | refine zA ?_ _ | refine zz ?_ | refine zw ?_ _)); exact BK263.out) hb); have n15_ := za (zx (g := gb287) (o := .cells #[.slice Ao23 t267.length co23, .slice Ao26 t270.length co26, .slice Ao27 t273.length co27, .slice Ao28 t276.length co28, .slice Ao29 t279.length co29, .slice Ao30 t282.length co30, .int .i64 t285] 31 (0, 0)) (by (with_reducible repeat (first | refine zA ?_ _ | refine zz ?_ | refine zw ?_ _)); exact BK287.out) hb); have n16_ := za (below_step (by repeat (first | (with_reducible first | exact HB.out | apply zs | apply zD | apply zt | refine zu ?_ GE263.out | refine zu ?_ GE287.out) | exact HB.out)) hb); clear HO_5; clear HO_264000; clear HO_264001; clear HO_264002; clear HO_264003; clear HO_264004; clear HO_264005; clear HO_288000; clear HO_288001; clear HO_288002; clear HO_288003; clear HO_288004; clear HO_288005; clear HO291; clear BK263; clear BK287; clear HB; have HO_5 := n0_; have HO_264000 := n1_; have HO_264001 := n2_; have HO_264002 := n3_; have HO_264003 := n4_; have HO_264004 := n5_; have HO_264005 := n6_; have HO_288000 := n7_; have HO_288001 := n8_; have HO_288002 := n9_; have HO_288003 := n10_; have HO_288004 := n11_; have HO_288005 := n12_; have HO291 := n13_; have BK263 := n14_; have BK287 := n15_; have HB := n16_; clear n0_ n1_ n2_ n3_ n4_ n5_ n6_ n7_ n8_ n9_ n10_ n11_ n12_ n13_ n14_ n15_ n16_; (try clear hb); (try clear hb2); (try clear hk); (try clear hi)))
         (first | go_meet | (refine Met.intro ?_; go_step; (repeat apply Exists.intro); refine ⟨?rel, ?eqm_⟩; (case eqm_ => (simp only [c50b0]; rfl))))
         case rel => exact ⟨_, (true), (by first | rfl | (simp; done) | (simp [*]; done)), H', ⟨by have := HJ6.out; first | omega | exact Nat.le_refl _⟩, ⟨by (with_reducible repeat (first | apply ze | apply zj | apply zi)); exact zm HO_264000.out (fun _ hk => hk.2.1)⟩, ⟨by (with_reducible repeat (first | apply ze | apply zj | apply zi)); exact HO_264001.out⟩, ⟨by (with_reducible repeat (first | apply ze | apply zj | apply zi)); exact HO_264002.out⟩, ⟨by (with_reducible repeat (first | apply ze | apply zj | apply zi)); exact HO_264003.out⟩, ⟨by (with_reducible repeat (first | apply ze | apply zj | apply zi)); exact HO_264004.out⟩, ⟨by (with_reducible repeat (first | apply ze | apply zj | apply zi)); exact HO_264005.out⟩, ⟨by (with_reducible repeat (first | apply ze | apply zj | apply zi)); exact zm HO_288000.out (fun _ hk => hk.2.1)⟩, ⟨by (with_reducible repeat (first | apply ze | apply zj | apply zi)); exact HO_288001.out⟩, ⟨by (with_reducible repeat (first | apply ze | apply zj | apply zi)); exact HO_288002.out⟩, ⟨by (with_reducible repeat (first | apply ze | apply zj | apply zi)); exact HO_288003.out⟩, ⟨by (with_reducible repeat (first | apply ze | apply zj | apply zi)); exact HO_288004.out⟩, ⟨by (with_reducible repeat (first | apply ze | apply zj | apply zi)); exact HO_288005.out⟩, ⟨by (with_reducible repeat (first | refine zA ?_ _ | refine zz ?_ | refine zw ?_ _)); exact BK263.out⟩, ⟨by (with_reducible repeat (first | refine zA ?_ _ | refine zz ?_ | refine zw ?_ _)); exact BK287.out⟩, ⟨by repeat (first | (with_reducible first | exact HB.out | apply zs | apply zD | apply zt | refine zu ?_ GE263.out | refine zu ?_ GE287.out) | exact HB.out)⟩⟩
      case rest =>
       clear HC46
       try clear c1
       try clear c2
       try clear c2b0
       try clear c2b1
       try clear p2
       try clear c3
       try clear c4
       try clear c5
       try clear c15
       try clear c16
       try clear c17
       try clear c18
       try clear c19
       try clear c20
       try clear c24
       try clear c32
       try clear c33
       try clear c37
       try clear c41
       try clear c44
       try clear c50
       try clear c50b0
       try clear c52
       try clear c53
       try clear c57
       try clear hcz13_0
       try clear hcz13_1
       try clear hcz13_2
       try clear hcz13_3
       try clear hcz13_4
       try clear hcz13_5
       try clear hcz13_6
       try clear hcz25_0
       try clear hcz25_1
       try clear hcz25_2
       try clear hcz25_3
       try clear hcz25_4
       try clear hcz25_5
       try clear hcz25_6
       try clear hcz34_0
       try clear hcz34_1
       try clear hcz34_2
       try clear hcz34_3
       try clear hcz34_4
       try clear hcz34_5
       try clear hcz34_6
       try clear hcz35_0
       try clear hcz35_1
       try clear hcz35_2
       try clear hcz35_3
       try clear hcz35_4
       try clear hcz35_5
       try clear hcz35_6
       try clear hcz38_0
       try clear hcz38_1
       try clear hcz38_2
       try clear hcz38_3
       try clear hcz38_4
       try clear hcz38_5
       try clear hcz38_6
       try clear hcz39_0
       try clear hcz39_1
       try clear hcz39_2
       try clear hcz39_3
       try clear hcz39_4
       try clear hcz39_5
       try clear hcz39_6
       try clear hcz54_0
       try clear hcz54_1
       try clear hcz54_2
       try clear hcz54_3
       try clear hcz54_4
       try clear hcz54_5
       try clear hcz54_6
       try clear hcz55_0
       try clear hcz55_1
       try clear hcz55_2
       try clear hcz55_3
       try clear hcz55_4
       try clear hcz55_5
       try clear hcz55_6
       try clear hcz58_0
       try clear hcz58_1
       try clear hcz58_2
       try clear hcz58_3
       try clear hcz58_4
       try clear hcz58_5
       try clear hcz58_6
       try clear hcz59_0
       try clear hcz59_1
       try clear hcz59_2
       try clear hcz59_3
       try clear hcz59_4
       try clear hcz59_5
       try clear hcz59_6
       try clear hfz13_0
       try clear hfz13_1
       try clear hfz13_2
       try clear hfz13_3
       try clear hfz13_4
       try clear hfz13_5
       try clear hfz13_6
       try clear hfz25_0
       try clear hfz25_1
       try clear hfz25_2
       try clear hfz25_3
       try clear hfz25_4
       try clear hfz25_5
       try clear hfz25_6
       try clear hfz34_0
       try clear hfz34_1
       try clear hfz34_2
       try clear hfz34_3
       try clear hfz34_4
       try clear hfz34_5
       try clear hfz34_6
       try clear hfz35_0
       try clear hfz35_1
       try clear hfz35_2
       try clear hfz35_3
       try clear hfz35_4
       try clear hfz35_5
       try clear hfz35_6
       try clear hfz38_0
       try clear hfz38_1
       try clear hfz38_2
       try clear hfz38_3
       try clear hfz38_4
       try clear hfz38_5
       try clear hfz38_6
       try clear hfz39_0
       try clear hfz39_1
       try clear hfz39_2
       try clear hfz39_3
       try clear hfz39_4
       try clear hfz39_5
       try clear hfz39_6
       try clear hfz54_0
       try clear hfz54_1
       try clear hfz54_2
       try clear hfz54_3
       try clear hfz54_4
       try clear hfz54_5
       try clear hfz54_6
       try clear hfz55_0
       try clear hfz55_1
       try clear hfz55_2
       try clear hfz55_3
       try clear hfz55_4
       try clear hfz55_5
       try clear hfz55_6
       try clear hfz58_0
       try clear hfz58_1
       try clear hfz58_2
       try clear hfz58_3
       try clear hfz58_4
       try clear hfz58_5
       try clear hfz58_6
       try clear hfz59_0
       try clear hfz59_1
       try clear hfz59_2
       try clear hfz59_3
       try clear hfz59_4
       try clear hfz59_5
       try clear hfz59_6
       try clear p2
       obtain ⟨kq, x58_45, rfl, HA, HJ45, HO_264000, HO_264001, HO_264002, HO_264003, HO_264004, HO_264005, HO_288000, HO_288001, HO_288002, HO_288003, HO_288004, HO_288005, BK263, BK287, HB⟩ := hcut
       cases kq with
       | zero => exact absurd HA.out (by simp [laws_FnExactNewData.j1])
       | succ kj45 =>
        have H := HA.out
        clear HA
        simp only [laws_FnExactNewData.j1] at H
        by_cases c61 : x58_45 = true
        ·
         subst c61
         have H1 : (some false) = some r := by rw [if_pos rfl] at H; exact H
         clear H
         have H := H1
         clear H1
         exact absurd ((Option.some.inj H).trans hlaw_.out) (by decide)
        ·
         replace c61 := Bool.eq_false_iff.mpr c61
         subst c61
         have H1 : ((laws_markData.f kj45 t267 t270 t273 t276 t279 t282 t285 1).bind fun bt296 => ((laws_heldData.f kj45 bt296.2.1 bt296.2.2.1 bt296.2.2.2.1 bt296.2.2.2.2.1 bt296.2.2.2.2.2.1 bt296.2.2.2.2.2.2 t285 1).bind fun t303 => (if t303 < 0 then (some false) else (if t303 = bt296.1 then ((laws_toIntS.f kj45 l0).bind fun t304 => ((impl_NewData.f kj45 t304).bind fun bt307 => ((laws_eqData.f kj45 bt307.1 bt307.2.1 bt307.2.2.1 bt307.2.2.2.1 bt307.2.2.2.2.1 bt307.2.2.2.2.2.1 bt307.2.2.2.2.2.2.1 t243 t246 t249 t252 t255 t258 t261).bind fun t328 => (if t328 = true then (laws_FnExactNewData.j2 kj45 bt296.1 (bt307.2.2.2.2.2.2.2 != t262) bt296.2.1 bt296.2.2.1 bt296.2.2.2.1 bt296.2.2.2.2.1 bt296.2.2.2.2.2.1 bt296.2.2.2.2.2.2 t285) else (laws_FnExactNewData.j2 kj45 bt296.1 true bt296.2.1 bt296.2.2.1 bt296.2.2.2.1 bt296.2.2.2.2.1 bt296.2.2.2.2.2.1 bt296.2.2.2.2.2.2 t285))))) else (some false))))) = some r := by rw [if_neg (show ¬ (false = true) by decide)] at H; exact H
         clear H
         have H := H1
         clear H1
         replace H := Option.bind_eq_some_iff.mp H
         obtain ⟨⟨t296, t297, t298, t299, t300, t301, t302⟩, A620, H⟩ := H
         replace H : ((laws_heldData.f kj45 t297 t298 t299 t300 t301 t302 t285 1).bind fun t303 => (if t303 < 0 then (some false) else (if t303 = t296 then ((laws_toIntS.f kj45 l0).bind fun t304 => ((impl_NewData.f kj45 t304).bind fun bt307 => ((laws_eqData.f kj45 bt307.1 bt307.2.1 bt307.2.2.1 bt307.2.2.2.1 bt307.2.2.2.2.1 bt307.2.2.2.2.2.1 bt307.2.2.2.2.2.2.1 t243 t246 t249 t252 t255 t258 t261).bind fun t328 => (if t328 = true then (laws_FnExactNewData.j2 kj45 t296 (bt307.2.2.2.2.2.2.2 != t262) t297 t298 t299 t300 t301 t302 t285) else (laws_FnExactNewData.j2 kj45 t296 true t297 t298 t299 t300 t301 t302 t285))))) else (some false)))) = some r := H
         have A62 := za A620
         clear A620
         replace H := Option.bind_eq_some_iff.mp H
         obtain ⟨t303, A630, H⟩ := H
         replace H : (if t303 < 0 then (some false) else (if t303 = t296 then ((laws_toIntS.f kj45 l0).bind fun t304 => ((impl_NewData.f kj45 t304).bind fun bt307 => ((laws_eqData.f kj45 bt307.1 bt307.2.1 bt307.2.2.1 bt307.2.2.2.1 bt307.2.2.2.2.1 bt307.2.2.2.2.2.1 bt307.2.2.2.2.2.2.1 t243 t246 t249 t252 t255 t258 t261).bind fun t328 => (if t328 = true then (laws_FnExactNewData.j2 kj45 t296 (bt307.2.2.2.2.2.2.2 != t262) t297 t298 t299 t300 t301 t302 t285) else (laws_FnExactNewData.j2 kj45 t296 true t297 t298 t299 t300 t301 t302 t285))))) else (some false))) = some r := H
         have A63 := za A630
         clear A630
         by_cases c64 : t303 < 0
         ·
          rw [if_pos c64] at H
          have c64b0 : decide (t303 < 0) = true := decide_eq_true c64
          clear c64
          exact absurd ((Option.some.inj H).trans hlaw_.out) (by decide)
         ·
          rw [if_neg c64] at H
          have c64b0 : decide (t303 < 0) = false := decide_eq_false c64
          clear c64
          by_cases c65 : t303 = t296
          ·
           rw [if_pos c65] at H
           have c65b0 : (t303 == t296) = true := beq_iff_eq.mpr c65
           have c65b1 : (t303 != t296) = false := bne_eq_false_iff_eq.mpr c65
           clear c65
           replace H := Option.bind_eq_some_iff.mp H
           obtain ⟨t304, A660, H⟩ := H
           replace H : ((impl_NewData.f kj45 t304).bind fun bt307 => ((laws_eqData.f kj45 bt307.1 bt307.2.1 bt307.2.2.1 bt307.2.2.2.1 bt307.2.2.2.2.1 bt307.2.2.2.2.2.1 bt307.2.2.2.2.2.2.1 t243 t246 t249 t252 t255 t258 t261).bind fun t328 => (if t328 = true then (laws_FnExactNewData.j2 kj45 t296 (bt307.2.2.2.2.2.2.2 != t262) t297 t298 t299 t300 t301 t302 t285) else (laws_FnExactNewData.j2 kj45 t296 true t297 t298 t299 t300 t301 t302 t285)))) = some r := H
           have A66 := za A660
           clear A660
           replace H := Option.bind_eq_some_iff.mp H
           obtain ⟨⟨t307, t310, t313, t316, t319, t322, t325, t326⟩, A670, H⟩ := H
           replace H : ((laws_eqData.f kj45 t307 t310 t313 t316 t319 t322 t325 t243 t246 t249 t252 t255 t258 t261).bind fun t328 => (if t328 = true then (laws_FnExactNewData.j2 kj45 t296 (t326 != t262) t297 t298 t299 t300 t301 t302 t285) else (laws_FnExactNewData.j2 kj45 t296 true t297 t298 t299 t300 t301 t302 t285))) = some r := H
           have A67 := za A670
           clear A670
           have HC68 := za H
           clear H
           have hnb69 := NB287_263.out
           have hnc69 := NB263_287.out
           have hcz70_0 : wc.cell? ⟨gb287, 0, none⟩ = some (.slice Ao23 t267.length co23) := (zy BK287.out 0).trans rfl
           have hcz70_1 : wc.cell? ⟨gb287, 1, none⟩ = some (.slice Ao26 t270.length co26) := (zy BK287.out 1).trans rfl
           have hcz70_2 : wc.cell? ⟨gb287, 2, none⟩ = some (.slice Ao27 t273.length co27) := (zy BK287.out 2).trans rfl
           have hcz70_3 : wc.cell? ⟨gb287, 3, none⟩ = some (.slice Ao28 t276.length co28) := (zy BK287.out 3).trans rfl
           have hcz70_4 : wc.cell? ⟨gb287, 4, none⟩ = some (.slice Ao29 t279.length co29) := (zy BK287.out 4).trans rfl
           have hcz70_5 : wc.cell? ⟨gb287, 5, none⟩ = some (.slice Ao30 t282.length co30) := (zy BK287.out 5).trans rfl
           have hcz70_6 : wc.cell? ⟨gb287, 6, none⟩ = some (.int .i64 t285) := (zy BK287.out 6).trans rfl
           have hfz70_0 := zC BK287.out 0
           have hfz70_1 := zC BK287.out 1
           have hfz70_2 := zC BK287.out 2
           have hfz70_3 := zC BK287.out 3
           have hfz70_4 := zC BK287.out 4
           have hfz70_5 := zC BK287.out 5
           have hfz70_6 := zC BK287.out 6
           go_upto_region 23 with (first | ((with_reducible refine gate_callee (f := 21) rfl ?_); refine goesL_ (some 61) rfl rfl Try.func21 (by kernel_rfl) rfl #[.agg #[.slice Ao23 t267.length co23, .slice Ao26 t270.length co26, .slice Ao27 t273.length co27, .slice Ao28 t276.length co28, .slice Ao29 t279.length co29, .slice Ao30 t282.length co30, .int .i64 t285], .int .i64 1] rfl (by (try simp only [List.map_toArray, List.map_cons, List.map_nil]); first | done | rfl | (simp only [List.length_drop, List.length_take]; rfl)) ?_; (with_reducible refine (laws_markData.calls kj45 (fun k_ => some k_ = (.slice Ao23 t267.length co23 : Value).ownBlock) (.slice Ao23 t267.length co23) t267 (fun k_ => some k_ = (.slice Ao26 t270.length co26 : Value).ownBlock) (.slice Ao26 t270.length co26) t270 (fun k_ => some k_ = (.slice Ao27 t273.length co27 : Value).ownBlock) (.slice Ao27 t273.length co27) t273 (fun k_ => some k_ = (.slice Ao28 t276.length co28 : Value).ownBlock) (.slice Ao28 t276.length co28) t276 (fun k_ => some k_ = (.slice Ao29 t279.length co29 : Value).ownBlock) (.slice Ao29 t279.length co29) t279 (fun k_ => some k_ = (.slice Ao30 t282.length co30 : Value).ownBlock) (.slice Ao30 t282.length co30) t282 t285 1 t296 t297 t298 t299 t300 t301 t302 w _ ?side1 ?side2 ?side3 ?side4 ?side5 ?side6 ?side7 ?side8 ?side9 ?side10 ?side11 ?side12 ?side13 ?side14 ?side15 ?side16 ?side17 ?side18 ?side19 A62.out).mono ?_); (case side1 => repeat (first | (with_reducible first | exact HB.out | apply zs | apply zD | apply zt | refine zu ?_ GE263.out | refine zu ?_ GE287.out) | exact HB.out)); (case side2 => exact Kd.R_tight rfl HO_288000.out); (case side3 => exact Kd.R_tight rfl HO_288001.out); (case side4 => exact Kd.R_tight rfl HO_288002.out); (case side5 => exact fun k_ e_ => (HO_288002.out.1 k_ e_.symm).2.2.2.2.1); (case side6 => exact fun k_ e_ => (HO_288002.out.1 k_ e_.symm).2.2.2.2.2.1); (case side7 => exact fun k_ e_ => (HO_288002.out.1 k_ e_.symm).2.2.2.2.2.2); (case side8 => exact Kd.R_tight rfl HO_288003.out); (case side9 => exact fun k_ e_ => (HO_288003.out.1 k_ e_.symm).2.2.2.2.1); (case side10 => exact fun k_ e_ => (HO_288003.out.1 k_ e_.symm).2.2.2.2.2.1); (case side11 => exact fun k_ e_ => (HO_288003.out.1 k_ e_.symm).2.2.2.2.2.2); (case side12 => exact Kd.R_tight rfl HO_288004.out); (case side13 => exact fun k_ e_ => (HO_288004.out.1 k_ e_.symm).2.2.2.2.1); (case side14 => exact fun k_ e_ => (HO_288004.out.1 k_ e_.symm).2.2.2.2.2.1); (case side15 => exact fun k_ e_ => (HO_288004.out.1 k_ e_.symm).2.2.2.2.2.2); (case side16 => exact Kd.R_tight rfl HO_288005.out); (case side17 => exact fun k_ e_ => (HO_288005.out.1 k_ e_.symm).2.2.2.2.1); (case side18 => exact fun k_ e_ => (HO_288005.out.1 k_ e_.symm).2.2.2.2.2.1); (case side19 => exact fun k_ e_ => (HO_288005.out.1 k_ e_.symm).2.2.2.2.2.2); rintro e w71 ⟨rfl, hy0, hy1, hy2, hy3, hy4, hy5, hb, hkp⟩; refine ⟨_, rfl, ?_⟩; have n0_ := za (zm (ok' := fun k_ => some k_ ≠ (.slice Ao23 t267.length co23 : Value).ownBlock) (Kd.R_keptB ((zf (zf (zf (zf (zf HO_264000.out (zr HO_288001.out) (by decide)) (zr HO_288002.out) (by decide)) (zr HO_288003.out) (by decide)) (zr HO_288004.out) (by decide)) (zr HO_288005.out) (by decide))) hkp (fun k_ hk_ hs_ => Or.elim hs_ (fun e_ => (hk_.1.1.1.1.1) e_) (fun e_ => Or.elim e_ (fun e_ => (hk_.1.1.1.1.2) e_) (fun e_ => Or.elim e_ (fun e_ => (hk_.1.1.1.2) e_) (fun e_ => Or.elim e_ (fun e_ => (hk_.1.1.2) e_) (fun e_ => Or.elim e_ (fun e_ => (hk_.1.2) e_) (fun e_ => (hk_.2) e_))))))) (fun k_ hk_ => hk_.1.1.1.1.1.1)); have n1_ := za (zm (ok' := fun k_ => some k_ ≠ (.slice Ao26 t270.length co26 : Value).ownBlock) (Kd.R_keptB ((zf (zf (zf (zf (zf HO_264001.out (zr HO_288000.out) (by decide)) (zr HO_288002.out) (by decide)) (zr HO_288003.out) (by decide)) (zr HO_288004.out) (by decide)) (zr HO_288005.out) (by decide))) hkp (fun k_ hk_ hs_ => Or.elim hs_ (fun e_ => (hk_.1.1.1.1.2) e_) (fun e_ => Or.elim e_ (fun e_ => (hk_.1.1.1.1.1) e_) (fun e_ => Or.elim e_ (fun e_ => (hk_.1.1.1.2) e_) (fun e_ => Or.elim e_ (fun e_ => (hk_.1.1.2) e_) (fun e_ => Or.elim e_ (fun e_ => (hk_.1.2) e_) (fun e_ => (hk_.2) e_))))))) (fun k_ hk_ => hk_.1.1.1.1.1.1)); have n2_ := za (zm (ok' := fun k_ => some k_ ≠ (.slice Ao16 t252.length co16 : Value).ownBlock ∧ some k_ ≠ (.slice Ao17 t255.length co17 : Value).ownBlock ∧ some k_ ≠ (.slice Ao18 t258.length co18 : Value).ownBlock ∧ some k_ ≠ (.slice Ao27 t273.length co27 : Value).ownBlock ∧ some k_ ≠ (.slice Ao28 t276.length co28 : Value).ownBlock ∧ some k_ ≠ (.slice Ao29 t279.length co29 : Value).ownBlock ∧ some k_ ≠ (.slice Ao30 t282.length co30 : Value).ownBlock) (Kd.R_keptB ((zf (zf HO_264002.out (zr HO_288000.out) (by decide)) (zr HO_288001.out) (by decide))) hkp (fun k_ hk_ hs_ => Or.elim hs_ (fun e_ => (hk_.1.2) e_) (fun e_ => Or.elim e_ (fun e_ => (hk_.2) e_) (fun e_ => Or.elim e_ (fun e_ => (hk_.1.1.2.2.2.1) e_) (fun e_ => Or.elim e_ (fun e_ => (hk_.1.1.2.2.2.2.1) e_) (fun e_ => Or.elim e_ (fun e_ => (hk_.1.1.2.2.2.2.2.1) e_) (fun e_ => (hk_.1.1.2.2.2.2.2.2) e_))))))) (fun k_ hk_ => ⟨hk_.1.1.1.1, hk_.1.1.1.2.1, hk_.1.1.1.2.2.1, hk_.1.1.1.2.2.2.1, hk_.1.1.1.2.2.2.2.1, hk_.1.1.1.2.2.2.2.2.1, hk_.1.1.1.2.2.2.2.2.2⟩)); have n3_ := za (zm (ok' := fun k_ => some k_ ≠ (.slice Ao15 t249.length co15 : Value).ownBlock ∧ some k_ ≠ (.slice Ao17 t255.length co17 : Value).ownBlock ∧ some k_ ≠ (.slice Ao18 t258.length co18 : Value).ownBlock ∧ some k_ ≠ (.slice Ao27 t273.length co27 : Value).ownBlock ∧ some k_ ≠ (.slice Ao28 t276.length co28 : Value).ownBlock ∧ some k_ ≠ (.slice Ao29 t279.length co29 : Value).ownBlock ∧ some k_ ≠ (.slice Ao30 t282.length co30 : Value).ownBlock) (Kd.R_keptB ((zf (zf HO_264003.out (zr HO_288000.out) (by decide)) (zr HO_288001.out) (by decide))) hkp (fun k_ hk_ hs_ => Or.elim hs_ (fun e_ => (hk_.1.2) e_) (fun e_ => Or.elim e_ (fun e_ => (hk_.2) e_) (fun e_ => Or.elim e_ (fun e_ => (hk_.1.1.2.2.2.1) e_) (fun e_ => Or.elim e_ (fun e_ => (hk_.1.1.2.2.2.2.1) e_) (fun e_ => Or.elim e_ (fun e_ => (hk_.1.1.2.2.2.2.2.1) e_) (fun e_ => (hk_.1.1.2.2.2.2.2.2) e_))))))) (fun k_ hk_ => ⟨hk_.1.1.1.1, hk_.1.1.1.2.1, hk_.1.1.1.2.2.1, hk_.1.1.1.2.2.2.1, hk_.1.1.1.2.2.2.2.1, hk_.1.1.1.2.2.2.2.2.1, hk_.1.1.1.2.2.2.2.2.2⟩)); have n4_ := za (zm (ok' := fun k_ => some k_ ≠ (.slice Ao15 t249.length co15 : Value).ownBlock ∧ some k_ ≠ (.slice Ao16 t252.length co16 : Value).ownBlock ∧ some k_ ≠ (.slice Ao18 t258.length co18 : Value).ownBlock ∧ some k_ ≠ (.slice Ao27 t273.length co27 : Value).ownBlock ∧ some k_ ≠ (.slice Ao28 t276.length co28 : Value).ownBlock ∧ some k_ ≠ (.slice Ao29 t279.length co29 : Value).ownBlock ∧ some k_ ≠ (.slice Ao30 t282.length co30 : Value).ownBlock) (Kd.R_keptB ((zf (zf HO_264004.out (zr HO_288000.out) (by decide)) (zr HO_288001.out) (by decide))) hkp (fun k_ hk_ hs_ => Or.elim hs_ (fun e_ => (hk_.1.2) e_) (fun e_ => Or.elim e_ (fun e_ => (hk_.2) e_) (fun e_ => Or.elim e_ (fun e_ => (hk_.1.1.2.2.2.1) e_) (fun e_ => Or.elim e_ (fun e_ => (hk_.1.1.2.2.2.2.1) e_) (fun e_ => Or.elim e_ (fun e_ => (hk_.1.1.2.2.2.2.2.1) e_) (fun e_ => (hk_.1.1.2.2.2.2.2.2) e_))))))) (fun k_ hk_ => ⟨hk_.1.1.1.1, hk_.1.1.1.2.1, hk_.1.1.1.2.2.1, hk_.1.1.1.2.2.2.1, hk_.1.1.1.2.2.2.2.1, hk_.1.1.1.2.2.2.2.2.1, hk_.1.1.1.2.2.2.2.2.2⟩)); have n5_ := za (zm (ok' := fun k_ => some k_ ≠ (.slice Ao15 t249.length co15 : Value).ownBlock ∧ some k_ ≠ (.slice Ao16 t252.length co16 : Value).ownBlock ∧ some k_ ≠ (.slice Ao17 t255.length co17 : Value).ownBlock ∧ some k_ ≠ (.slice Ao27 t273.length co27 : Value).ownBlock ∧ some k_ ≠ (.slice Ao28 t276.length co28 : Value).ownBlock ∧ some k_ ≠ (.slice Ao29 t279.length co29 : Value).ownBlock ∧ some k_ ≠ (.slice Ao30 t282.length co30 : Value).ownBlock) (Kd.R_keptB ((zf (zf HO_264005.out (zr HO_288000.out) (by decide)) (zr HO_288001.out) (by decide))) hkp (fun k_ hk_ hs_ => Or.elim hs_ (fun e_ => (hk_.1.2) e_) (fun e_ => Or.elim e_ (fun e_ => (hk_.2) e_) (fun e_ => Or.elim e_ (fun e_ => (hk_.1.1.2.2.2.1) e_) (fun e_ => Or.elim e_ (fun e_ => (hk_.1.1.2.2.2.2.1) e_) (fun e_ => Or.elim e_ (fun e_ => (hk_.1.1.2.2.2.2.2.1) e_) (fun e_ => (hk_.1.1.2.2.2.2.2.2) e_))))))) (fun k_ hk_ => ⟨hk_.1.1.1.1, hk_.1.1.1.2.1, hk_.1.1.1.2.2.1, hk_.1.1.1.2.2.2.1, hk_.1.1.1.2.2.2.2.1, hk_.1.1.1.2.2.2.2.2.1, hk_.1.1.1.2.2.2.2.2.2⟩)); have n6_ := za (Kd.R_reok rfl hy0 (fun k_ e_ => HO_288000.out.1 k_ e_)); have n7_ := za (Kd.R_reok rfl hy1 (fun k_ e_ => HO_288001.out.1 k_ e_)); have n8_ := za (Kd.R_reok rfl hy2 (fun k_ e_ => HO_288002.out.1 k_ e_)); have n9_ := za (Kd.R_reok rfl hy3 (fun k_ e_ => HO_288003.out.1 k_ e_)); have n10_ := za (Kd.R_reok rfl hy4 (fun k_ e_ => HO_288004.out.1 k_ e_)); have n11_ := za (Kd.R_reok rfl hy5 (fun k_ e_ => HO_288005.out.1 k_ e_)); have n12_ := za (blk_kept (by (with_reducible repeat (first | refine zA ?_ _ | refine zz ?_ | refine zw ?_ _)); exact BK263.out) hkp (fun hs_ => Or.elim hs_ (fun e_ => (fun e_ => (Kd.R_ne HO_288000.out BK263.out (by decide)) e_) e_) (fun e_ => Or.elim e_ (fun e_ => (fun e_ => (Kd.R_ne HO_288001.out BK263.out (by decide)) e_) e_) (fun e_ => Or.elim e_ (fun e_ => (fun e_ => (Kd.R_ne HO_288002.out BK263.out (by decide)) e_) e_) (fun e_ => Or.elim e_ (fun e_ => (fun e_ => (Kd.R_ne HO_288003.out BK263.out (by decide)) e_) e_) (fun e_ => Or.elim e_ (fun e_ => (fun e_ => (Kd.R_ne HO_288004.out BK263.out (by decide)) e_) e_) (fun e_ => (fun e_ => (Kd.R_ne HO_288005.out BK263.out (by decide)) e_) e_))))))); have n13_ := za (blk_kept (by (with_reducible repeat (first | refine zA ?_ _ | refine zz ?_ | refine zw ?_ _)); exact BK287.out) hkp (fun hs_ => Or.elim hs_ (fun e_ => (fun e_ => (Kd.R_ne HO_288000.out BK287.out (by decide)) e_) e_) (fun e_ => Or.elim e_ (fun e_ => (fun e_ => (Kd.R_ne HO_288001.out BK287.out (by decide)) e_) e_) (fun e_ => Or.elim e_ (fun e_ => (fun e_ => (Kd.R_ne HO_288002.out BK287.out (by decide)) e_) e_) (fun e_ => Or.elim e_ (fun e_ => (fun e_ => (Kd.R_ne HO_288003.out BK287.out (by decide)) e_) e_) (fun e_ => Or.elim e_ (fun e_ => (fun e_ => (Kd.R_ne HO_288004.out BK287.out (by decide)) e_) e_) (fun e_ => (fun e_ => (Kd.R_ne HO_288005.out BK287.out (by decide)) e_) e_))))))); have n14_ := za (hb); clear HO_264000; clear HO_264001; clear HO_264002; clear HO_264003; clear HO_264004; clear HO_264005; clear HO_288000; clear HO_288001; clear HO_288002; clear HO_288003; clear HO_288004; clear HO_288005; clear BK263; clear BK287; clear HB; have HO_264000 := n0_; have HO_264001 := n1_; have HO_264002 := n2_; have HO_264003 := n3_; have HO_264004 := n4_; have HO_264005 := n5_; have HO_288000 := n6_; have HO_288001 := n7_; have HO_288002 := n8_; have HO_288003 := n9_; have HO_288004 := n10_; have HO_288005 := n11_; have BK263 := n12_; have BK287 := n13_; have HB := n14_; clear n0_ n1_ n2_ n3_ n4_ n5_ n6_ n7_ n8_ n9_ n10_ n11_ n12_ n13_ n14_; (try clear hb); (try clear hkp); (try clear hy0); (try clear hy1); (try clear hy2); (try clear hy3); (try clear hy4); (try clear hy5); have hcz72_0 : w71.cell? ⟨gb287, 0, none⟩ = some (.slice Ao23 t267.length co23) := (zy BK287.out 0).trans rfl; have hcz72_1 : w71.cell? ⟨gb287, 1, none⟩ = some (.slice Ao26 t270.length co26) := (zy BK287.out 1).trans rfl; have hcz72_2 : w71.cell? ⟨gb287, 2, none⟩ = some (.slice Ao27 t273.length co27) := (zy BK287.out 2).trans rfl; have hcz72_3 : w71.cell? ⟨gb287, 3, none⟩ = some (.slice Ao28 t276.length co28) := (zy BK287.out 3).trans rfl; have hcz72_4 : w71.cell? ⟨gb287, 4, none⟩ = some (.slice Ao29 t279.length co29) := (zy BK287.out 4).trans rfl; have hcz72_5 : w71.cell? ⟨gb287, 5, none⟩ = some (.slice Ao30 t282.length co30) := (zy BK287.out 5).trans rfl; have hcz72_6 : w71.cell? ⟨gb287, 6, none⟩ = some (.int .i64 t285) := (zy BK287.out 6).trans rfl; have hfz72_0 := zC BK287.out 0; have hfz72_1 := zC BK287.out 1; have hfz72_2 := zC BK287.out 2; have hfz72_3 := zC BK287.out 3; have hfz72_4 := zC BK287.out 4; have hfz72_5 := zC BK287.out 5; have hfz72_6 := zC BK287.out 6) | ((with_reducible refine gate_callee (f := 22) rfl ?_); refine goesL_ (some 64) rfl rfl Try.func22 (by kernel_rfl) rfl #[.agg #[.slice Ao23 t297.length co23, .slice Ao26 t298.length co26, .slice Ao27 t299.length co27, .slice Ao28 t300.length co28, .slice Ao29 t301.length co29, .slice Ao30 t302.length co30, .int .i64 t285], .int .i64 1] rfl (by (try simp only [List.map_toArray, List.map_cons, List.map_nil]); first | done | (rw [show t297.length = t267.length from (zo HO_288000.out).1.symm, show t298.length = t270.length from (zo HO_288001.out).1.symm, show t299.length = t273.length from (zo HO_288002.out).1.symm, show t300.length = t276.length from (zo HO_288003.out).1.symm, show t301.length = t279.length from (zo HO_288004.out).1.symm, show t302.length = t282.length from (zo HO_288005.out).1.symm] <;> rfl) | rfl | (simp only [List.length_drop, List.length_take]; rfl)) ?_; (with_reducible refine (laws_heldData.calls kj45 _ _ t297 _ _ t298 _ _ t299 _ _ t300 _ _ t301 _ _ t302 t285 1 t303 _ ?side1 ?side2 ?side3 ?side4 ?side5 ?side6 ?side7 ?side8 ?side9 ?side10 ?side11 ?side12 A63.out).mono ?_); (case side1 => repeat (first | exact (zo HO_288000.out).2.2 | (with_reducible refine zb ?_ _) | (with_reducible refine zd ?_ _) | (with_reducible refine zc ?_))); (case side2 => rw [show t297.length = t267.length from (zo HO_288000.out).1.symm]; exact (zo HO_288000.out).2.1); (case side3 => repeat (first | exact (zo HO_288001.out).2.2 | (with_reducible refine zb ?_ _) | (with_reducible refine zd ?_ _) | (with_reducible refine zc ?_))); (case side4 => rw [show t298.length = t270.length from (zo HO_288001.out).1.symm]; exact (zo HO_288001.out).2.1); (case side5 => repeat (first | exact (zo HO_288002.out).2.2 | (with_reducible refine zb ?_ _) | (with_reducible refine zd ?_ _) | (with_reducible refine zc ?_))); (case side6 => rw [show t299.length = t273.length from (zo HO_288002.out).1.symm]; exact (zo HO_288002.out).2.1); (case side7 => repeat (first | exact (zo HO_288003.out).2.2 | (with_reducible refine zb ?_ _) | (with_reducible refine zd ?_ _) | (with_reducible refine zc ?_))); (case side8 => rw [show t300.length = t276.length from (zo HO_288003.out).1.symm]; exact (zo HO_288003.out).2.1); (case side9 => repeat (first | exact (zo HO_288004.out).2.2 | (with_reducible refine zb ?_ _) | (with_reducible refine zd ?_ _) | (with_reducible refine zc ?_))); (case side10 => rw [show t301.length = t279.length from (zo HO_288004.out).1.symm]; exact (zo HO_288004.out).2.1); (case side11 => repeat (first | exact (zo HO_288005.out).2.2 | (with_reducible refine zb ?_ _) | (with_reducible refine zd ?_ _) | (with_reducible refine zc ?_))); (case side12 => rw [show t302.length = t282.length from (zo HO_288005.out).1.symm]; exact (zo HO_288005.out).2.1); rintro e w73 ⟨rfl, hb⟩; refine ⟨_, rfl, ?_⟩; have n0_ := za (zh (by (with_reducible repeat (first | apply ze | apply zj | apply zi)); exact HO_264000.out) hb); have n1_ := za (zh (by (with_reducible repeat (first | apply ze | apply zj | apply zi)); exact HO_264001.out) hb); have n2_ := za (zh (by (with_reducible repeat (first | apply ze | apply zj | apply zi)); exact HO_264002.out) hb); have n3_ := za (zh (by (with_reducible repeat (first | apply ze | apply zj | apply zi)); exact HO_264003.out) hb); have n4_ := za (zh (by (with_reducible repeat (first | apply ze | apply zj | apply zi)); exact HO_264004.out) hb); have n5_ := za (zh (by (with_reducible repeat (first | apply ze | apply zj | apply zi)); exact HO_264005.out) hb); have n6_ := za (zh (by (with_reducible repeat (first | apply ze | apply zj | apply zi)); exact HO_288000.out) hb); have n7_ := za (zh (by (with_reducible repeat (first | apply ze | apply zj | apply zi)); exact HO_288001.out) hb); have n8_ := za (zh (by (with_reducible repeat (first | apply ze | apply zj | apply zi)); exact HO_288002.out) hb); have n9_ := za (zh (by (with_reducible repeat (first | apply ze | apply zj | apply zi)); exact HO_288003.out) hb); have n10_ := za (zh (by (with_reducible repeat (first | apply ze | apply zj | apply zi)); exact HO_288004.out) hb); have n11_ := za (zh (by (with_reducible repeat (first | apply ze | apply zj | apply zi)); exact HO_288005.out) hb); have n12_ := za (zx (g := gb263) (o := .cells #[.slice Ao12 t243.length co12, .slice Ao14 t246.length co14, .slice Ao15 t249.length co15, .slice Ao16 t252.length co16, .slice Ao17 t255.length co17, .slice Ao18 t258.length co18, .int .i64 t261] 31 (0, 0)) (by (with_reducible repeat (first | refine zA ?_ _ | refine zz ?_ | refine zw ?_ _)); exact BK263.out) hb); have n13_ := za (zx (g := gb287) (o := .cells #[.slice Ao23 t267.length co23, .slice Ao26 t270.length co26, .slice Ao27 t273.length co27, .slice Ao28 t276.length co28, .slice Ao29 t279.length co29, .slice Ao30 t282.length co30, .int .i64 t285] 31 (0, 0)) (by (with_reducible repeat (first | refine zA ?_ _ | refine zz ?_ | refine zw ?_ _)); exact BK287.out) hb); have n14_ := za (below_step (by repeat (first | (with_reducible first | exact HB.out | apply zs | apply zD | apply zt | refine zu ?_ GE263.out | refine zu ?_ GE287.out) | exact HB.out)) hb); clear HO_264000; clear HO_264001; clear HO_264002; clear HO_264003; clear HO_264004; clear HO_264005; clear HO_288000; clear HO_288001; clear HO_288002; clear HO_288003; clear HO_288004; clear HO_288005; clear BK263; clear BK287; clear HB; have HO_264000 := n0_; have HO_264001 := n1_; have HO_264002 := n2_; have HO_264003 := n3_; have HO_264004 := n4_; have HO_264005 := n5_; have HO_288000 := n6_; have HO_288001 := n7_; have HO_288002 := n8_; have HO_288003 := n9_; have HO_288004 := n10_; have HO_288005 := n11_; have BK263 := n12_; have BK287 := n13_; have HB := n14_; clear n0_ n1_ n2_ n3_ n4_ n5_ n6_ n7_ n8_ n9_ n10_ n11_ n12_ n13_ n14_; (try clear hb); (try clear hb2); (try clear hk); (try clear hi)) | ((with_reducible refine gate_callee (f := 17) rfl ?_); refine goesL_ (some 72) rfl rfl Try.func17 (by kernel_rfl) rfl #[.slice A0 l0.length c0] rfl (by (try simp only [List.map_toArray, List.map_cons, List.map_nil]); first | done | rfl | (simp only [List.length_drop, List.length_take]; rfl)) ?_; (with_reducible refine (laws_toIntS.calls kj45 _ _ l0 t304 _ ?side1 ?side2 A66.out).mono ?_); (case side1 => repeat (first | exact (Kd.C_below HR0.out HB.out) | (with_reducible refine zb ?_ _) | (with_reducible refine zd ?_ _) | (with_reducible refine zc ?_))); (case side2 => exact HC0.out); rintro e w74 ⟨v305, rfl, ho0, hb⟩; refine ⟨_, rfl, ?_⟩; have n0_ := za (Kd.R_elder' (by (with_reducible repeat (first | apply ze | apply zj | apply zi)); exact HO_264000.out) (zg ho0) hb); have n1_ := za (zh (by (with_reducible repeat (first | apply ze | apply zj | apply zi)); exact HO_264001.out) hb); have n2_ := za (zh (by (with_reducible repeat (first | apply ze | apply zj | apply zi)); exact HO_264002.out) hb); have n3_ := za (zh (by (with_reducible repeat (first | apply ze | apply zj | apply zi)); exact HO_264003.out) hb); have n4_ := za (zh (by (with_reducible repeat (first | apply ze | apply zj | apply zi)); exact HO_264004.out) hb); have n5_ := za (zh (by (with_reducible repeat (first | apply ze | apply zj | apply zi)); exact HO_264005.out) hb); have n6_ := za (Kd.R_elder' (by (with_reducible repeat (first | apply ze | apply zj | apply zi)); exact HO_288000.out) (zg ho0) hb); have n7_ := za (zh (by (with_reducible repeat (first | apply ze | apply zj | apply zi)); exact HO_288001.out) hb); have n8_ := za (zh (by (with_reducible repeat (first | apply ze | apply zj | apply zi)); exact HO_288002.out) hb); have n9_ := za (zh (by (with_reducible repeat (first | apply ze | apply zj | apply zi)); exact HO_288003.out) hb); have n10_ := za (zh (by (with_reducible repeat (first | apply ze | apply zj | apply zi)); exact HO_288004.out) hb); have n11_ := za (zh (by (with_reducible repeat (first | apply ze | apply zj | apply zi)); exact HO_288005.out) hb); have n12_ := za (zk (zn (zn ho0 (zl (by (with_reducible repeat (first | apply ze | apply zj | apply zi)); exact HO_264000.out))) (zl (by (with_reducible repeat (first | apply ze | apply zj | apply zi)); exact HO_288000.out))) (zv (by repeat (first | (with_reducible first | exact HB.out | apply zs | apply zD | apply zt | refine zu ?_ GE263.out | refine zu ?_ GE287.out) | exact HB.out)))); have n13_ := za (zx (g := gb263) (o := .cells #[.slice Ao12 t243.length co12, .slice Ao14 t246.length co14, .slice Ao15 t249.length co15, .slice Ao16 t252.length co16, .slice Ao17 t255.length co17, .slice Ao18 t258.length co18, .int .i64 t261] 31 (0, 0)) (by (with_reducible repeat (first | refine zA ?_ _ | refine zz ?_ | refine zw ?_ _)); exact BK263.out) hb); have n14_ := za (zx (g := gb287) (o := .cells #[.slice Ao23 t267.length co23, .slice Ao26 t270.length co26, .slice Ao27 t273.length co27, .slice Ao28 t276.length co28, .slice Ao29 t279.length co29, .slice Ao30 t282.length co30, .int .i64 t285] 31 (0, 0)) (by (with_reducible repeat (first | refine zA ?_ _ | refine zz ?_ | refine zw ?_ _)); exact BK287.out) hb); have n15_ := za (below_step (by repeat (first | (with_reducible first | exact HB.out | apply zs | apply zD | apply zt | refine zu ?_ GE263.out | refine zu ?_ GE287.out) | exact HB.out)) hb); clear HO_264000; clear HO_264001; clear HO_264002; clear HO_264003; clear HO_264004; clear HO_264005; clear HO_288000; clear HO_288001; clear HO_288002; clear HO_288003; clear HO_288004; clear HO_288005; clear BK263; clear BK287; clear HB; have HO_264000 := n0_; have HO_264001 := n1_; have HO_264002 := n2_; have HO_264003 := n3_; have HO_264004 := n4_; have HO_264005 := n5_; have HO_288000 := n6_; have HO_288001 := n7_; have HO_288002 := n8_; have HO_288003 := n9_; have HO_288004 := n10_; have HO_288005 := n11_; have HO306 := n12_; have BK263 := n13_; have BK287 := n14_; have HB := n15_; clear n0_ n1_ n2_ n3_ n4_ n5_ n6_ n7_ n8_ n9_ n10_ n11_ n12_ n13_ n14_ n15_; (try clear hb); (try clear hb2); (try clear hk); (try clear hi); (try clear ho0); obtain ⟨Ao75, co75, eo75⟩ := zp HO306.out; subst eo75) | ((with_reducible refine gate_callee (f := 18) rfl ?_); refine goesL_ (some 73) rfl rfl Try.func18 (by kernel_rfl) rfl #[.slice Ao75 t304.length co75] rfl (by (try simp only [List.map_toArray, List.map_cons, List.map_nil]); first | done | rfl | (simp only [List.length_drop, List.length_take]; rfl)) ?_; (with_reducible refine (impl_NewData.calls kj45 _ _ t304 t307 t310 t313 t316 t319 t322 t325 t326 _ ?side1 ?side2 A67.out).mono ?_); (case side1 => repeat (first | exact (zo HO306.out).2.2 | (with_reducible refine zb ?_ _) | (with_reducible refine zd ?_ _) | (with_reducible refine zc ?_))); (case side2 => exact (zo HO306.out).2.1); rintro e w76 ⟨v308, v311, v314, v317, v320, v323, rfl, ho0, ho1, ho2, ho3, ho4, ho5, hb⟩; refine ⟨_, rfl, ?_⟩; have n0_ := za (Kd.R_elder' (by (with_reducible repeat (first | apply ze | apply zj | apply zi)); exact HO_264000.out) (zg ho0) hb); have n1_ := za (Kd.R_elder' (by (with_reducible repeat (first | apply ze | apply zj | apply zi)); exact HO_264001.out) (zg ho1) hb); have n2_ := za (zm (zq (zq (zq (zq (Kd.R_old (by (with_reducible repeat (first | apply ze | apply zj | apply zi)); exact HO_264002.out) hb) (zg ho2)) (zg ho3)) (zg ho4)) (zg ho5)) (fun _ h_ => h_.1)); have n3_ := za (zm (zq (zq (zq (zq (Kd.R_old (by (with_reducible repeat (first | apply ze | apply zj | apply zi)); exact HO_264003.out) hb) (zg ho2)) (zg ho3)) (zg ho4)) (zg ho5)) (fun _ h_ => h_.1)); have n4_ := za (zm (zq (zq (zq (zq (Kd.R_old (by (with_reducible repeat (first | apply ze | apply zj | apply zi)); exact HO_264004.out) hb) (zg ho2)) (zg ho3)) (zg ho4)) (zg ho5)) (fun _ h_ => h_.1)); have n5_ := za (zm (zq (zq (zq (zq (Kd.R_old (by (with_reducible repeat (first | apply ze | apply zj | apply zi)); exact HO_264005.out) hb) (zg ho2)) (zg ho3)) (zg ho4)) (zg ho5)) (fun _ h_ => h_.1)); have n6_ := za (Kd.R_elder' (by (with_reducible repeat (first | apply ze | apply zj | apply zi)); exact HO_288000.out) (zg ho0) hb); have n7_ := za (Kd.R_elder' (by (with_reducible repeat (first | apply ze | apply zj | apply zi)); exact HO_288001.out) (zg ho1) hb); have n8_ := za (zm (zq (zq (zq (zq (Kd.R_old (by (with_reducible repeat (first | apply ze | apply zj | apply zi)); exact HO_288002.out) hb) (zg ho2)) (zg ho3)) (zg ho4)) (zg ho5)) (fun _ h_ => h_.1)); have n9_ := za (zm (zq (zq (zq (zq (Kd.R_old (by (with_reducible repeat (first | apply ze | apply zj | apply zi)); exact HO_288003.out) hb) (zg ho2)) (zg ho3)) (zg ho4)) (zg ho5)) (fun _ h_ => h_.1)); have n10_ := za (zm (zq (zq (zq (zq (Kd.R_old (by (with_reducible repeat (first | apply ze | apply zj | apply zi)); exact HO_288004.out) hb) (zg ho2)) (zg ho3)) (zg ho4)) (zg ho5)) (fun _ h_ => h_.1)); have n11_ := za (zm (zq (zq (zq (zq (Kd.R_old (by (with_reducible repeat (first | apply ze | apply zj | apply zi)); exact HO_288005.out) hb) (zg ho2)) (zg ho3)) (zg ho4)) (zg ho5)) (fun _ h_ => h_.1)); have n12_ := za (Kd.R_elder' (by (with_reducible repeat (first | apply ze | apply zj | apply zi)); exact HO306.out) (zg ho0) hb); have n13_ := za (zk (zn (zn (zn ho0 (zl (by (with_reducible repeat (first | apply ze | apply zj | apply zi)); exact HO_264000.out))) (zl (by (with_reducible repeat (first | apply ze | apply zj | apply zi)); exact HO_288000.out))) (zl (by (with_reducible repeat (first | apply ze | apply zj | apply zi)); exact HO306.out))) (zv (by repeat (first | (with_reducible first | exact HB.out | apply zs | apply zD | apply zt | refine zu ?_ GE263.out | refine zu ?_ GE287.out) | exact HB.out)))); have n14_ := za (zk (zn (zn ho1 (zl (by (with_reducible repeat (first | apply ze | apply zj | apply zi)); exact HO_264001.out))) (zl (by (with_reducible repeat (first | apply ze | apply zj | apply zi)); exact HO_288001.out))) (zv (by repeat (first | (with_reducible first | exact HB.out | apply zs | apply zD | apply zt | refine zu ?_ GE263.out | refine zu ?_ GE287.out) | exact HB.out)))); have n15_ := za (zk (zn (zn (zn (zn (zn (zn (zn (zn ho2 (zl (by (with_reducible repeat (first | apply ze | apply zj | apply zi)); exact HO_264002.out))) (zl (by (with_reducible repeat (first | apply ze | apply zj | apply zi)); exact HO_264003.out))) (zl (by (with_reducible repeat (first | apply ze | apply zj | apply zi)); exact HO_264004.out))) (zl (by (with_reducible repeat (first | apply ze | apply zj | apply zi)); exact HO_264005.out))) (zl (by (with_reducible repeat (first | apply ze | apply zj | apply zi)); exact HO_288002.out))) (zl (by (with_reducible repeat (first | apply ze | apply zj | apply zi)); exact HO_288003.out))) (zl (by (with_reducible repeat (first | apply ze | apply zj | apply zi)); exact HO_288004.out))) (zl (by (with_reducible repeat (first | apply ze | apply zj | apply zi)); exact HO_288005.out))) (zv (by repeat (first | (with_reducible first | exact HB.out | apply zs | apply zD | apply zt | refine zu ?_ GE263.out | refine zu ?_ GE287.out) | exact HB.out)))); have n16_ := za (zk (zn (zn (zn (zn (zn (zn (zn (zn ho3 (zl (by (with_reducible repeat (first | apply ze | apply zj | apply zi)); exact HO_264002.out))) (zl (by (with_reducible repeat (first | apply ze | apply zj | apply zi)); exact HO_264003.out))) (zl (by (with_reducible repeat (first | apply ze | apply zj | apply zi)); exact HO_264004.out))) (zl (by (with_reducible repeat (first | apply ze | apply zj | apply zi)); exact HO_264005.out))) (zl (by (with_reducible repeat (first | apply ze | apply zj | apply zi)); exact HO_288002.out))) (zl (by (with_reducible repeat (first | apply ze | apply zj | apply zi)); exact HO_288003.out))) (zl (by (with_reducible repeat (first | apply ze | apply zj | apply zi)); exact HO_288004.out))) (zl (by (with_reducible repeat (first | apply ze | apply zj | apply zi)); exact HO_288005.out))) (zv (by repeat (first | (with_reducible first | exact HB.out | apply zs | apply zD | apply zt | refine zu ?_ GE263.out | refine zu ?_ GE287.out) | exact HB.out)))); have n17_ := za (zk (zn (zn (zn (zn (zn (zn (zn (zn ho4 (zl (by (with_reducible repeat (first | apply ze | apply zj | apply zi)); exact HO_264002.out))) (zl (by (with_reducible repeat (first | apply ze | apply zj | apply zi)); exact HO_264003.out))) (zl (by (with_reducible repeat (first | apply ze | apply zj | apply zi)); exact HO_264004.out))) (zl (by (with_reducible repeat (first | apply ze | apply zj | apply zi)); exact HO_264005.out))) (zl (by (with_reducible repeat (first | apply ze | apply zj | apply zi)); exact HO_288002.out))) (zl (by (with_reducible repeat (first | apply ze | apply zj | apply zi)); exact HO_288003.out))) (zl (by (with_reducible repeat (first | apply ze | apply zj | apply zi)); exact HO_288004.out))) (zl (by (with_reducible repeat (first | apply ze | apply zj | apply zi)); exact HO_288005.out))) (zv (by repeat (first | (with_reducible first | exact HB.out | apply zs | apply zD | apply zt | refine zu ?_ GE263.out | refine zu ?_ GE287.out) | exact HB.out)))); have n18_ := za (zk (zn (zn (zn (zn (zn (zn (zn (zn ho5 (zl (by (with_reducible repeat (first | apply ze | apply zj | apply zi)); exact HO_264002.out))) (zl (by (with_reducible repeat (first | apply ze | apply zj | apply zi)); exact HO_264003.out))) (zl (by (with_reducible repeat (first | apply ze | apply zj | apply zi)); exact HO_264004.out))) (zl (by (with_reducible repeat (first | apply ze | apply zj | apply zi)); exact HO_264005.out))) (zl (by (with_reducible repeat (first | apply ze | apply zj | apply zi)); exact HO_288002.out))) (zl (by (with_reducible repeat (first | apply ze | apply zj | apply zi)); exact HO_288003.out))) (zl (by (with_reducible repeat (first | apply ze | apply zj | apply zi)); exact HO_288004.out))) (zl (by (with_reducible repeat (first | apply ze | apply zj | apply zi)); exact HO_288005.out))) (zv (by repeat (first | (with_reducible first | exact HB.out | apply zs | apply zD | apply zt | refine zu ?_ GE263.out | refine zu ?_ GE287.out) | exact HB.out)))); have n19_ := za (zx (g := gb263) (o := .cells #[.slice Ao12 t243.length co12, .slice Ao14 t246.length co14, .slice Ao15 t249.length co15, .slice Ao16 t252.length co16, .slice Ao17 t255.length co17, .slice Ao18 t258.length co18, .int .i64 t261] 31 (0, 0)) (by (with_reducible repeat (first | refine zA ?_ _ | refine zz ?_ | refine zw ?_ _)); exact BK263.out) hb); have n20_ := za (zx (g := gb287) (o := .cells #[.slice Ao23 t267.length co23, .slice Ao26 t270.length co26, .slice Ao27 t273.length co27, .slice Ao28 t276.length co28, .slice Ao29 t279.length co29, .slice Ao30 t282.length co30, .int .i64 t285] 31 (0, 0)) (by (with_reducible repeat (first | refine zA ?_ _ | refine zz ?_ | refine zw ?_ _)); exact BK287.out) hb); have n21_ := za (below_step (by repeat (first | (with_reducible first | exact HB.out | apply zs | apply zD | apply zt | refine zu ?_ GE263.out | refine zu ?_ GE287.out) | exact HB.out)) hb); clear HO_264000; clear HO_264001; clear HO_264002; clear HO_264003; clear HO_264004; clear HO_264005; clear HO_288000; clear HO_288001; clear HO_288002; clear HO_288003; clear HO_288004; clear HO_288005; clear HO306; clear BK263; clear BK287; clear HB; have HO_264000 := n0_; have HO_264001 := n1_; have HO_264002 := n2_; have HO_264003 := n3_; have HO_264004 := n4_; have HO_264005 := n5_; have HO_288000 := n6_; have HO_288001 := n7_; have HO_288002 := n8_; have HO_288003 := n9_; have HO_288004 := n10_; have HO_288005 := n11_; have HO306 := n12_; have HO309 := n13_; have HO312 := n14_; have HO315 := n15_; have HO318 := n16_; have HO321 := n17_; have HO324 := n18_; have BK263 := n19_; have BK287 := n20_; have HB := n21_; clear n0_ n1_ n2_ n3_ n4_ n5_ n6_ n7_ n8_ n9_ n10_ n11_ n12_ n13_ n14_ n15_ n16_ n17_ n18_ n19_ n20_ n21_; (try clear hb); (try clear hb2); (try clear hk); (try clear hi); (try clear ho0); (try clear ho1); (try clear ho2); (try clear ho3); (try clear ho4); (try clear ho5)) | ((with_reducible refine gate_dst (N := 11) rfl ?_); refine box_event ?hg (N := 11) ?hd (cs := #[.slice none 0 0, .slice none 0 0, .slice none 0 0, .slice none 0 0, .slice none 0 0, .slice none 0 0, .int .i64 0]) (t := 31) ?hr ?_; (case hd => rfl); (case hg => rfl); (case hr => first | (go_simp; done) | (go_simp; rfl)); intro gb327 hg w77 hbox hb; have n0_ := za (zh (by (with_reducible repeat (first | apply ze | apply zj | apply zi)); exact HO_264000.out) hb); have n1_ := za (zh (by (with_reducible repeat (first | apply ze | apply zj | apply zi)); exact HO_264001.out) hb); have n2_ := za (zh (by (with_reducible repeat (first | apply ze | apply zj | apply zi)); exact HO_264002.out) hb); have n3_ := za (zh (by (with_reducible repeat (first | apply ze | apply zj | apply zi)); exact HO_264003.out) hb); have n4_ := za (zh (by (with_reducible repeat (first | apply ze | apply zj | apply zi)); exact HO_264004.out) hb); have n5_ := za (zh (by (with_reducible repeat (first | apply ze | apply zj | apply zi)); exact HO_264005.out) hb); have n6_ := za (zh (by (with_reducible repeat (first | apply ze | apply zj | apply zi)); exact HO_288000.out) hb); have n7_ := za (zh (by (with_reducible repeat (first | apply ze | apply zj | apply zi)); exact HO_288001.out) hb); have n8_ := za (zh (by (with_reducible repeat (first | apply ze | apply zj | apply zi)); exact HO_288002.out) hb); have n9_ := za (zh (by (with_reducible repeat (first | apply ze | apply zj | apply zi)); exact HO_288003.out) hb); have n10_ := za (zh (by (with_reducible repeat (first | apply ze | apply zj | apply zi)); exact HO_288004.out) hb); have n11_ := za (zh (by (with_reducible repeat (first | apply ze | apply zj | apply zi)); exact HO_288005.out) hb); have n12_ := za (zh (by (with_reducible repeat (first | apply ze | apply zj | apply zi)); exact HO306.out) hb); have n13_ := za (zh (by (with_reducible repeat (first | apply ze | apply zj | apply zi)); exact HO309.out) hb); have n14_ := za (zh (by (with_reducible repeat (first | apply ze | apply zj | apply zi)); exact HO312.out) hb); have n15_ := za (zh (by (with_reducible repeat (first | apply ze | apply zj | apply zi)); exact HO315.out) hb); have n16_ := za (zh (by (with_reducible repeat (first | apply ze | apply zj | apply zi)); exact HO318.out) hb); have n17_ := za (zh (by (with_reducible repeat (first | apply ze | apply zj | apply zi)); exact HO321.out) hb); have n18_ := za (zh (by (with_reducible repeat (first | apply ze | apply zj | apply zi)); exact HO324.out) hb); have n19_ := za (zx (g := gb263) (o := .cells #[.slice Ao12 t243.length co12, .slice Ao14 t246.length co14, .slice Ao15 t249.length co15, .slice Ao16 t252.length co16, .slice Ao17 t255.length co17, .slice Ao18 t258.length co18, .int .i64 t261] 31 (0, 0)) (by (with_reducible repeat (first | refine zA ?_ _ | refine zz ?_ | refine zw ?_ _)); exact BK263.out) hb); have n20_ := za (zx (g := gb287) (o := .cells #[.slice Ao23 t267.length co23, .slice Ao26 t270.length co26, .slice Ao27 t273.length co27, .slice Ao28 t276.length co28, .slice Ao29 t279.length co29, .slice Ao30 t282.length co30, .int .i64 t285] 31 (0, 0)) (by (with_reducible repeat (first | refine zA ?_ _ | refine zz ?_ | refine zw ?_ _)); exact BK287.out) hb); have n21_ := za (below_step (by repeat (first | (with_reducible first | exact HB.out | apply zs | apply zD | apply zt | refine zu ?_ GE263.out | refine zu ?_ GE287.out) | exact HB.out)) hb); have n22_ := za (hbox); have n23_ := za ((by rw [hg]; exact (zv (by repeat (first | (with_reducible first | exact HB.out | apply zs | apply zD | apply zt | refine zu ?_ GE263.out | refine zu ?_ GE287.out) | exact HB.out))) : w.heap.size ≤ gb327)); have n24_ := za ((by rw [hg]; exact (zv (by repeat (first | (with_reducible first | exact HB.out | apply zs | apply zD | apply zt | refine zu ?_ GE263.out | refine zu ?_ GE287.out) | exact HB.out))) : w.heap.size ≤ gb327)); have n25_ := za ((by rw [hg]; exact Nat.ne_of_lt (blk_lt (g := gb263) (o := .cells #[.slice Ao12 t243.length co12, .slice Ao14 t246.length co14, .slice Ao15 t249.length co15, .slice Ao16 t252.length co16, .slice Ao17 t255.length co17, .slice Ao18 t258.length co18, .int .i64 t261] 31 (0, 0)) (by (with_reducible repeat (first | refine zA ?_ _ | refine zz ?_ | refine zw ?_ _)); exact BK263.out)) : gb263 ≠ gb327)); have n26_ := za ((by rw [hg]; exact Nat.ne_of_gt (blk_lt (g := gb263) (o := .cells #[.slice Ao12 t243.length co12, .slice Ao14 t246.length co14, .slice Ao15 t249.length co15, .slice Ao16 t252.length co16, .slice Ao17 t255.length co17, .slice Ao18 t258.length co18, .int .i64 t261] 31 (0, 0)) (by (with_reducible repeat (first | refine zA ?_ _ | refine zz ?_ | refine zw ?_ _)); exact BK263.out)) : gb327 ≠ gb263)); have n27_ := za ((by rw [hg]; exact Nat.ne_of_lt (blk_lt (g := gb287) (o := .cells #[.slice Ao23 t267.length co23, .slice Ao26 t270.length co26, .slice Ao27 t273.length co27, .slice Ao28 t276.length co28, .slice Ao29 t279.length co29, .slice Ao30 t282.length co30, .int .i64 t285] 31 (0, 0)) (by (with_reducible repeat (first | refine zA ?_ _ | refine zz ?_ | refine zw ?_ _)); exact BK287.out)) : gb287 ≠ gb327)); have n28_ := za ((by rw [hg]; exact Nat.ne_of_gt (blk_lt (g := gb287) (o := .cells #[.slice Ao23 t267.length co23, .slice Ao26 t270.length co26, .slice Ao27 t273.length co27, .slice Ao28 t276.length co28, .slice Ao29 t279.length co29, .slice Ao30 t282.length co30, .int .i64 t285] 31 (0, 0)) (by (with_reducible repeat (first | refine zA ?_ _ | refine zz ?_ | refine zw ?_ _)); exact BK287.out)) : gb327 ≠ gb287)); clear HO_264000; clear HO_264001; clear HO_264002; clear HO_264003; clear HO_264004; clear HO_264005; clear HO_288000; clear HO_288001; clear HO_288002; clear HO_288003; clear HO_288004; clear HO_288005; clear HO306; clear HO309; clear HO312; clear HO315; clear HO318; clear HO321; clear HO324; clear BK263; clear BK287; clear HB; have HO_264000 := n0_; have HO_264001 := n1_; have HO_264002 := n2_; have HO_264003 := n3_; have HO_264004 := n4_; have HO_264005 := n5_; have HO_288000 := n6_; have HO_288001 := n7_; have HO_288002 := n8_; have HO_288003 := n9_; have HO_288004 := n10_; have HO_288005 := n11_; have HO306 := n12_; have HO309 := n13_; have HO312 := n14_; have HO315 := n15_; have HO318 := n16_; have HO321 := n17_; have HO324 := n18_; have BK263 := n19_; have BK287 := n20_; have HB := n21_; have BK327 := n22_; have GW327 := n23_; have GE327 := n24_; have NB263_327 := n25_; have NB327_263 := n26_; have NB287_327 := n27_; have NB327_287 := n28_; clear n0_ n1_ n2_ n3_ n4_ n5_ n6_ n7_ n8_ n9_ n10_ n11_ n12_ n13_ n14_ n15_ n16_ n17_ n18_ n19_ n20_ n21_ n22_ n23_ n24_ n25_ n26_ n27_ n28_; clear hb hbox hg; obtain ⟨Ao78, co78, eo78⟩ := zp HO309.out; subst eo78; have hnb79 := NB327_263.out; have hnc79 := NB263_327.out; have hnb80 := NB327_287.out; have hnc80 := NB287_327.out; have hcz81_0 : w77.cell? ⟨gb327, 0, none⟩ = some (.slice none 0 0) := (zy BK327.out 0).trans rfl; have hcz81_1 : w77.cell? ⟨gb327, 1, none⟩ = some (.slice none 0 0) := (zy BK327.out 1).trans rfl; have hcz81_2 : w77.cell? ⟨gb327, 2, none⟩ = some (.slice none 0 0) := (zy BK327.out 2).trans rfl; have hcz81_3 : w77.cell? ⟨gb327, 3, none⟩ = some (.slice none 0 0) := (zy BK327.out 3).trans rfl; have hcz81_4 : w77.cell? ⟨gb327, 4, none⟩ = some (.slice none 0 0) := (zy BK327.out 4).trans rfl; have hcz81_5 : w77.cell? ⟨gb327, 5, none⟩ = some (.slice none 0 0) := (zy BK327.out 5).trans rfl; have hcz81_6 : w77.cell? ⟨gb327, 6, none⟩ = some (.int .i64 0) := (zy BK327.out 6).trans rfl; have hfz81_0 := zC BK327.out 0; have hfz81_1 := zC BK327.out 1; have hfz81_2 := zC BK327.out 2; have hfz81_3 := zC BK327.out 3; have hfz81_4 := zC BK327.out 4; have hfz81_5 := zC BK327.out 5; have hfz81_6 := zC BK327.out 6; obtain ⟨Ao82, co82, eo82⟩ := zp HO312.out; subst eo82; obtain ⟨Ao83, co83, eo83⟩ := zp HO315.out; subst eo83; obtain ⟨Ao84, co84, eo84⟩ := zp HO318.out; subst eo84; obtain ⟨Ao85, co85, eo85⟩ := zp HO321.out; subst eo85; obtain ⟨Ao86, co86, eo86⟩ := zp HO324.out; subst eo86))
           (try simp only [Act.put, List.setIfInBounds_toArray, List.set_cons_zero, List.set_cons_succ])
           go_cut [84] (fun v84 wc => ∃ (kq : Nat) (x84_67 : Bool), v84 = .bool x84_67 ∧ Aside0 (laws_FnExactNewData.j2 kq t296 x84_67 t297 t298 t299 t300 t301 t302 t285 = some r) ∧ Aside0 (kq ≤ kj45) ∧ Aside0 (Kd.R (Kd.int .i64) 3 wc w.heap.size (fun k_ => some k_ ≠ ((.slice Ao23 t267.length co23) : Value).ownBlock ∧ some k_ ≠ ((.slice Ao78 t307.length co78) : Value).ownBlock) (.slice Ao12 t243.length co12) t243) ∧ Aside0 (Kd.R k77 77 wc w.heap.size (fun k_ => some k_ ≠ ((.slice Ao26 t270.length co26) : Value).ownBlock ∧ some k_ ≠ ((.slice Ao82 t310.length co82) : Value).ownBlock) (.slice Ao14 t246.length co14) t246) ∧ Aside0 (Kd.R Kd.bool 4 wc w.heap.size (fun k_ => some k_ ≠ ((.slice Ao16 t252.length co16) : Value).ownBlock ∧ some k_ ≠ ((.slice Ao17 t255.length co17) : Value).ownBlock ∧ some k_ ≠ ((.slice Ao18 t258.length co18) : Value).ownBlock ∧ some k_ ≠ ((.slice Ao27 t273.length co27) : Value).ownBlock ∧ some k_ ≠ ((.slice Ao28 t276.length co28) : Value).ownBlock ∧ some k_ ≠ ((.slice Ao29 t279.length co29) : Value).ownBlock ∧ some k_ ≠ ((.slice Ao30 t282.length co30) : Value).ownBlock ∧ some k_ ≠ ((.slice Ao83 t313.length co83) : Value).ownBlock ∧ some k_ ≠ ((.slice Ao84 t316.length co84) : Value).ownBlock ∧ some k_ ≠ ((.slice Ao85 t319.length co85) : Value).ownBlock ∧ some k_ ≠ ((.slice Ao86 t322.length co86) : Value).ownBlock) (.slice Ao15 t249.length co15) t249) ∧ Aside0 (Kd.R Kd.bool 4 wc w.heap.size (fun k_ => some k_ ≠ ((.slice Ao15 t249.length co15) : Value).ownBlock ∧ some k_ ≠ ((.slice Ao17 t255.length co17) : Value).ownBlock ∧ some k_ ≠ ((.slice Ao18 t258.length co18) : Value).ownBlock ∧ some k_ ≠ ((.slice Ao27 t273.length co27) : Value).ownBlock ∧ some k_ ≠ ((.slice Ao28 t276.length co28) : Value).ownBlock ∧ some k_ ≠ ((.slice Ao29 t279.length co29) : Value).ownBlock ∧ some k_ ≠ ((.slice Ao30 t282.length co30) : Value).ownBlock ∧ some k_ ≠ ((.slice Ao83 t313.length co83) : Value).ownBlock ∧ some k_ ≠ ((.slice Ao84 t316.length co84) : Value).ownBlock ∧ some k_ ≠ ((.slice Ao85 t319.length co85) : Value).ownBlock ∧ some k_ ≠ ((.slice Ao86 t322.length co86) : Value).ownBlock) (.slice Ao16 t252.length co16) t252) ∧ Aside0 (Kd.R Kd.bool 4 wc w.heap.size (fun k_ => some k_ ≠ ((.slice Ao15 t249.length co15) : Value).ownBlock ∧ some k_ ≠ ((.slice Ao16 t252.length co16) : Value).ownBlock ∧ some k_ ≠ ((.slice Ao18 t258.length co18) : Value).ownBlock ∧ some k_ ≠ ((.slice Ao27 t273.length co27) : Value).ownBlock ∧ some k_ ≠ ((.slice Ao28 t276.length co28) : Value).ownBlock ∧ some k_ ≠ ((.slice Ao29 t279.length co29) : Value).ownBlock ∧ some k_ ≠ ((.slice Ao30 t282.length co30) : Value).ownBlock ∧ some k_ ≠ ((.slice Ao83 t313.length co83) : Value).ownBlock ∧ some k_ ≠ ((.slice Ao84 t316.length co84) : Value).ownBlock ∧ some k_ ≠ ((.slice Ao85 t319.length co85) : Value).ownBlock ∧ some k_ ≠ ((.slice Ao86 t322.length co86) : Value).ownBlock) (.slice Ao17 t255.length co17) t255) ∧ Aside0 (Kd.R Kd.bool 4 wc w.heap.size (fun k_ => some k_ ≠ ((.slice Ao15 t249.length co15) : Value).ownBlock ∧ some k_ ≠ ((.slice Ao16 t252.length co16) : Value).ownBlock ∧ some k_ ≠ ((.slice Ao17 t255.length co17) : Value).ownBlock ∧ some k_ ≠ ((.slice Ao27 t273.length co27) : Value).ownBlock ∧ some k_ ≠ ((.slice Ao28 t276.length co28) : Value).ownBlock ∧ some k_ ≠ ((.slice Ao29 t279.length co29) : Value).ownBlock ∧ some k_ ≠ ((.slice Ao30 t282.length co30) : Value).ownBlock ∧ some k_ ≠ ((.slice Ao83 t313.length co83) : Value).ownBlock ∧ some k_ ≠ ((.slice Ao84 t316.length co84) : Value).ownBlock ∧ some k_ ≠ ((.slice Ao85 t319.length co85) : Value).ownBlock ∧ some k_ ≠ ((.slice Ao86 t322.length co86) : Value).ownBlock) (.slice Ao18 t258.length co18) t258) ∧ Aside0 (Kd.R (Kd.int .i64) 3 wc w.heap.size (fun k_ => some k_ ≠ ((.slice Ao12 t243.length co12) : Value).ownBlock ∧ some k_ ≠ ((.slice Ao78 t307.length co78) : Value).ownBlock) (.slice Ao23 t267.length co23) t297) ∧ Aside0 (Kd.R k77 77 wc w.heap.size (fun k_ => some k_ ≠ ((.slice Ao14 t246.length co14) : Value).ownBlock ∧ some k_ ≠ ((.slice Ao82 t310.length co82) : Value).ownBlock) (.slice Ao26 t270.length co26) t298) ∧ Aside0 (Kd.R Kd.bool 4 wc w.heap.size (fun k_ => some k_ ≠ ((.slice Ao15 t249.length co15) : Value).ownBlock ∧ some k_ ≠ ((.slice Ao16 t252.length co16) : Value).ownBlock ∧ some k_ ≠ ((.slice Ao17 t255.length co17) : Value).ownBlock ∧ some k_ ≠ ((.slice Ao18 t258.length co18) : Value).ownBlock ∧ some k_ ≠ ((.slice Ao28 t276.length co28) : Value).ownBlock ∧ some k_ ≠ ((.slice Ao29 t279.length co29) : Value).ownBlock ∧ some k_ ≠ ((.slice Ao30 t282.length co30) : Value).ownBlock ∧ some k_ ≠ ((.slice Ao83 t313.length co83) : Value).ownBlock ∧ some k_ ≠ ((.slice Ao84 t316.length co84) : Value).ownBlock ∧ some k_ ≠ ((.slice Ao85 t319.length co85) : Value).ownBlock ∧ some k_ ≠ ((.slice Ao86 t322.length co86) : Value).ownBlock) (.slice Ao27 t273.length co27) t299) ∧ Aside0 (Kd.R Kd.bool 4 wc w.heap.size (fun k_ => some k_ ≠ ((.slice Ao15 t249.length co15) : Value).ownBlock ∧ some k_ ≠ ((.slice Ao16 t252.length co16) : Value).ownBlock ∧ some k_ ≠ ((.slice Ao17 t255.length co17) : Value).ownBlock ∧ some k_ ≠ ((.slice Ao18 t258.length co18) : Value).ownBlock ∧ some k_ ≠ ((.slice Ao27 t273.length co27) : Value).ownBlock ∧ some k_ ≠ ((.slice Ao29 t279.length co29) : Value).ownBlock ∧ some k_ ≠ ((.slice Ao30 t282.length co30) : Value).ownBlock ∧ some k_ ≠ ((.slice Ao83 t313.length co83) : Value).ownBlock ∧ some k_ ≠ ((.slice Ao84 t316.length co84) : Value).ownBlock ∧ some k_ ≠ ((.slice Ao85 t319.length co85) : Value).ownBlock ∧ some k_ ≠ ((.slice Ao86 t322.length co86) : Value).ownBlock) (.slice Ao28 t276.length co28) t300) ∧ Aside0 (Kd.R Kd.bool 4 wc w.heap.size (fun k_ => some k_ ≠ ((.slice Ao15 t249.length co15) : Value).ownBlock ∧ some k_ ≠ ((.slice Ao16 t252.length co16) : Value).ownBlock ∧ some k_ ≠ ((.slice Ao17 t255.length co17) : Value).ownBlock ∧ some k_ ≠ ((.slice Ao18 t258.length co18) : Value).ownBlock ∧ some k_ ≠ ((.slice Ao27 t273.length co27) : Value).ownBlock ∧ some k_ ≠ ((.slice Ao28 t276.length co28) : Value).ownBlock ∧ some k_ ≠ ((.slice Ao30 t282.length co30) : Value).ownBlock ∧ some k_ ≠ ((.slice Ao83 t313.length co83) : Value).ownBlock ∧ some k_ ≠ ((.slice Ao84 t316.length co84) : Value).ownBlock ∧ some k_ ≠ ((.slice Ao85 t319.length co85) : Value).ownBlock ∧ some k_ ≠ ((.slice Ao86 t322.length co86) : Value).ownBlock) (.slice Ao29 t279.length co29) t301) ∧ Aside0 (Kd.R Kd.bool 4 wc w.heap.size (fun k_ => some k_ ≠ ((.slice Ao15 t249.length co15) : Value).ownBlock ∧ some k_ ≠ ((.slice Ao16 t252.length co16) : Value).ownBlock ∧ some k_ ≠ ((.slice Ao17 t255.length co17) : Value).ownBlock ∧ some k_ ≠ ((.slice Ao18 t258.length co18) : Value).ownBlock ∧ some k_ ≠ ((.slice Ao27 t273.length co27) : Value).ownBlock ∧ some k_ ≠ ((.slice Ao28 t276.length co28) : Value).ownBlock ∧ some k_ ≠ ((.slice Ao29 t279.length co29) : Value).ownBlock ∧ some k_ ≠ ((.slice Ao83 t313.length co83) : Value).ownBlock ∧ some k_ ≠ ((.slice Ao84 t316.length co84) : Value).ownBlock ∧ some k_ ≠ ((.slice Ao85 t319.length co85) : Value).ownBlock ∧ some k_ ≠ ((.slice Ao86 t322.length co86) : Value).ownBlock) (.slice Ao30 t282.length co30) t302) ∧ Aside0 (Kd.R (Kd.int .i64) 3 wc w.heap.size (fun k_ => some k_ ≠ ((.slice Ao12 t243.length co12) : Value).ownBlock ∧ some k_ ≠ ((.slice Ao23 t267.length co23) : Value).ownBlock) (.slice Ao78 t307.length co78) t307) ∧ Aside0 (Kd.R k77 77 wc w.heap.size (fun k_ => some k_ ≠ ((.slice Ao14 t246.length co14) : Value).ownBlock ∧ some k_ ≠ ((.slice Ao26 t270.length co26) : Value).ownBlock) (.slice Ao82 t310.length co82) t310) ∧ Aside0 (Kd.R Kd.bool 4 wc w.heap.size (fun k_ => some k_ ≠ ((.slice Ao15 t249.length co15) : Value).ownBlock ∧ some k_ ≠ ((.slice Ao16 t252.length co16) : Value).ownBlock ∧ some k_ ≠ ((.slice Ao17 t255.length co17) : Value).ownBlock ∧ some k_ ≠ ((.slice Ao18 t258.length co18) : Value).ownBlock ∧ some k_ ≠ ((.slice Ao27 t273.length co27) : Value).ownBlock ∧ some k_ ≠ ((.slice Ao28 t276.length co28) : Value).ownBlock ∧ some k_ ≠ ((.slice Ao29 t279.length co29) : Value).ownBlock ∧ some k_ ≠ ((.slice Ao30 t282.length co30) : Value).ownBlock ∧ some k_ ≠ ((.slice Ao84 t316.length co84) : Value).ownBlock ∧ some k_ ≠ ((.slice Ao85 t319.length co85) : Value).ownBlock ∧ some k_ ≠ ((.slice Ao86 t322.length co86) : Value).ownBlock) (.slice Ao83 t313.length co83) t313) ∧ Aside0 (Kd.R Kd.bool 4 wc w.heap.size (fun k_ => some k_ ≠ ((.slice Ao15 t249.length co15) : Value).ownBlock ∧ some k_ ≠ ((.slice Ao16 t252.length co16) : Value).ownBlock ∧ some k_ ≠ ((.slice Ao17 t255.length co17) : Value).ownBlock ∧ some k_ ≠ ((.slice Ao18 t258.length co18) : Value).ownBlock ∧ some k_ ≠ ((.slice Ao27 t273.length co27) : Value).ownBlock ∧ some k_ ≠ ((.slice Ao28 t276.length co28) : Value).ownBlock ∧ some k_ ≠ ((.slice Ao29 t279.length co29) : Value).ownBlock ∧ some k_ ≠ ((.slice Ao30 t282.length co30) : Value).ownBlock ∧ some k_ ≠ ((.slice Ao83 t313.length co83) : Value).ownBlock ∧ some k_ ≠ ((.slice Ao85 t319.length co85) : Value).ownBlock ∧ some k_ ≠ ((.slice Ao86 t322.length co86) : Value).ownBlock) (.slice Ao84 t316.length co84) t316) ∧ Aside0 (Kd.R Kd.bool 4 wc w.heap.size (fun k_ => some k_ ≠ ((.slice Ao15 t249.length co15) : Value).ownBlock ∧ some k_ ≠ ((.slice Ao16 t252.length co16) : Value).ownBlock ∧ some k_ ≠ ((.slice Ao17 t255.length co17) : Value).ownBlock ∧ some k_ ≠ ((.slice Ao18 t258.length co18) : Value).ownBlock ∧ some k_ ≠ ((.slice Ao27 t273.length co27) : Value).ownBlock ∧ some k_ ≠ ((.slice Ao28 t276.length co28) : Value).ownBlock ∧ some k_ ≠ ((.slice Ao29 t279.length co29) : Value).ownBlock ∧ some k_ ≠ ((.slice Ao30 t282.length co30) : Value).ownBlock ∧ some k_ ≠ ((.slice Ao83 t313.length co83) : Value).ownBlock ∧ some k_ ≠ ((.slice Ao84 t316.length co84) : Value).ownBlock ∧ some k_ ≠ ((.slice Ao86 t322.length co86) : Value).ownBlock) (.slice Ao85 t319.length co85) t319) ∧ Aside0 (Kd.R Kd.bool 4 wc w.heap.size (fun k_ => some k_ ≠ ((.slice Ao15 t249.length co15) : Value).ownBlock ∧ some k_ ≠ ((.slice Ao16 t252.length co16) : Value).ownBlock ∧ some k_ ≠ ((.slice Ao17 t255.length co17) : Value).ownBlock ∧ some k_ ≠ ((.slice Ao18 t258.length co18) : Value).ownBlock ∧ some k_ ≠ ((.slice Ao27 t273.length co27) : Value).ownBlock ∧ some k_ ≠ ((.slice Ao28 t276.length co28) : Value).ownBlock ∧ some k_ ≠ ((.slice Ao29 t279.length co29) : Value).ownBlock ∧ some k_ ≠ ((.slice Ao30 t282.length co30) : Value).ownBlock ∧ some k_ ≠ ((.slice Ao83 t313.length co83) : Value).ownBlock ∧ some k_ ≠ ((.slice Ao84 t316.length co84) : Value).ownBlock ∧ some k_ ≠ ((.slice Ao85 t319.length co85) : Value).ownBlock) (.slice Ao86 t322.length co86) t322) ∧ Aside0 (wc.heap[gb263]? = some (.cells #[(.slice Ao12 t243.length co12), (.slice Ao14 t246.length co14), (.slice Ao15 t249.length co15), (.slice Ao16 t252.length co16), (.slice Ao17 t255.length co17), (.slice Ao18 t258.length co18), .int .i64 t261] 31 (0, 0))) ∧ Aside0 (wc.heap[gb287]? = some (.cells #[(.slice Ao23 t267.length co23), (.slice Ao26 t270.length co26), (.slice Ao27 t273.length co27), (.slice Ao28 t276.length co28), (.slice Ao29 t279.length co29), (.slice Ao30 t282.length co30), .int .i64 t285] 31 (0, 0))) ∧ Aside0 (wc.heap[gb327]? = some (.cells #[(.slice Ao78 t307.length co78), (.slice Ao82 t310.length co82), (.slice Ao83 t313.length co83), (.slice Ao84 t316.length co84), (.slice Ao85 t319.length co85), (.slice Ao86 t322.length co86), .int .i64 t325] 31 (0, 0))) ∧ Aside0 (Below w.heap.size w wc))
           case first =>
            have H := HC68.out
            clear HC68
            replace H := Option.bind_eq_some_iff.mp H
            obtain ⟨t328, A870, H⟩ := H
            replace H : (if t328 = true then (laws_FnExactNewData.j2 kj45 t296 (t326 != t262) t297 t298 t299 t300 t301 t302 t285) else (laws_FnExactNewData.j2 kj45 t296 true t297 t298 t299 t300 t301 t302 t285)) = some r := H
            have A87 := za A870
            clear A870
            by_cases c88 : t328 = true
            ·
             subst c88
             have H1 : (laws_FnExactNewData.j2 kj45 t296 (t326 != t262) t297 t298 t299 t300 t301 t302 t285) = some r := by rw [if_pos rfl] at H; exact H
             clear H
             have H := H1
             clear H1
             have H' := za H
             clear H
             have hnb89 := NB327_263.out
             have hnc89 := NB263_327.out
             have hnb90 := NB327_287.out
             have hnc90 := NB287_327.out
             have hcz91_0 : w77.cell? ⟨gb327, 0, none⟩ = some (.slice none 0 0) := (zy BK327.out 0).trans rfl
             have hcz91_1 : w77.cell? ⟨gb327, 1, none⟩ = some (.slice none 0 0) := (zy BK327.out 1).trans rfl
             have hcz91_2 : w77.cell? ⟨gb327, 2, none⟩ = some (.slice none 0 0) := (zy BK327.out 2).trans rfl
             have hcz91_3 : w77.cell? ⟨gb327, 3, none⟩ = some (.slice none 0 0) := (zy BK327.out 3).trans rfl
             have hcz91_4 : w77.cell? ⟨gb327, 4, none⟩ = some (.slice none 0 0) := (zy BK327.out 4).trans rfl
             have hcz91_5 : w77.cell? ⟨gb327, 5, none⟩ = some (.slice none 0 0) := (zy BK327.out 5).trans rfl
             have hcz91_6 : w77.cell? ⟨gb327, 6, none⟩ = some (.int .i64 0) := (zy BK327.out 6).trans rfl
             have hfz91_0 := zC BK327.out 0
             have hfz91_1 := zC BK327.out 1
             have hfz91_2 := zC BK327.out 2
             have hfz91_3 := zC BK327.out 3
             have hfz91_4 := zC BK327.out 4
             have hfz91_5 := zC BK327.out 5
             have hfz91_6 := zC BK327.out 6
             have hnb92 := NB263_287.out
             have hnc92 := NB287_263.out
             have hcz93_0 : w77.cell? ⟨gb263, 0, none⟩ = some (.slice Ao12 t243.length co12) := (zy BK263.out 0).trans rfl
             have hcz93_1 : w77.cell? ⟨gb263, 1, none⟩ = some (.slice Ao14 t246.length co14) := (zy BK263.out 1).trans rfl
             have hcz93_2 : w77.cell? ⟨gb263, 2, none⟩ = some (.slice Ao15 t249.length co15) := (zy BK263.out 2).trans rfl
             have hcz93_3 : w77.cell? ⟨gb263, 3, none⟩ = some (.slice Ao16 t252.length co16) := (zy BK263.out 3).trans rfl
             have hcz93_4 : w77.cell? ⟨gb263, 4, none⟩ = some (.slice Ao17 t255.length co17) := (zy BK263.out 4).trans rfl
             have hcz93_5 : w77.cell? ⟨gb263, 5, none⟩ = some (.slice Ao18 t258.length co18) := (zy BK263.out 5).trans rfl
             have hcz93_6 : w77.cell? ⟨gb263, 6, none⟩ = some (.int .i64 t261) := (zy BK263.out 6).trans rfl
             have hfz93_0 := zC BK263.out 0
             have hfz93_1 := zC BK263.out 1
             have hfz93_2 := zC BK263.out 2
             have hfz93_3 := zC BK263.out 3
             have hfz93_4 := zC BK263.out 4
             have hfz93_5 := zC BK263.out 5
             have hfz93_6 := zC BK263.out 6
             go_wp2_with (first | ((with_reducible refine gate_callee (f := 15) rfl ?_); refine goesL_ (some 78) rfl rfl Try.func15 (by kernel_rfl) rfl #[.agg #[.slice Ao78 t307.length co78, .slice Ao82 t310.length co82, .slice Ao83 t313.length co83, .slice Ao84 t316.length co84, .slice Ao85 t319.length co85, .slice Ao86 t322.length co86, .int .i64 t325], .agg #[.slice Ao12 t243.length co12, .slice Ao14 t246.length co14, .slice Ao15 t249.length co15, .slice Ao16 t252.length co16, .slice Ao17 t255.length co17, .slice Ao18 t258.length co18, .int .i64 t261]] rfl (by (try simp only [List.map_toArray, List.map_cons, List.map_nil]); first | done | rfl | (simp only [List.length_drop, List.length_take]; rfl)) ?_; (with_reducible refine (laws_eqData.calls kj45 _ _ t307 _ _ t310 _ _ t313 _ _ t316 _ _ t319 _ _ t322 t325 _ _ t243 _ _ t246 _ _ t249 _ _ t252 _ _ t255 _ _ t258 t261 true _ ?side1 ?side2 ?side3 ?side4 ?side5 ?side6 ?side7 ?side8 ?side9 ?side10 ?side11 ?side12 ?side13 ?side14 ?side15 ?side16 ?side17 ?side18 ?side19 ?side20 ?side21 ?side22 ?side23 ?side24 A87.out).mono ?_); (case side1 => refine (zo (e := 3) (base := w.heap.size) (ok := fun k_ => (((True ∧ some k_ ≠ (.slice Ao12 t243.length co12 : Value).ownBlock) ∧ some k_ ≠ (.slice Ao23 t267.length co23 : Value).ownBlock) ∧ some k_ ≠ (.slice Ao75 t304.length co75 : Value).ownBlock)) (n := t307.length) (c := co78) ?_).2.2; exact (by (with_reducible repeat (first | apply ze | apply zj | apply zi)); exact (zm (Kd_R_far7 HO309.out BK327.out (by decide)) (fun _ h_ => h_.1)))); (case side2 => exact (zo HO309.out).2.1); (case side3 => refine (zo (e := 77) (base := w.heap.size) (ok := fun k_ => ((True ∧ some k_ ≠ (.slice Ao14 t246.length co14 : Value).ownBlock) ∧ some k_ ≠ (.slice Ao26 t270.length co26 : Value).ownBlock)) (n := t310.length) (c := co82) ?_).2.2; exact (by (with_reducible repeat (first | apply ze | apply zj | apply zi)); exact (zm (Kd_R_far7 HO312.out BK327.out (by decide)) (fun _ h_ => h_.1)))); (case side4 => exact (zo HO312.out).2.1); (case side5 => refine (zo (e := 4) (base := w.heap.size) (ok := fun k_ => (((((((((some k_ ≠ (.slice Ao84 t316.length co84 : Value).ownBlock ∧ (some k_ ≠ (.slice Ao85 t319.length co85 : Value).ownBlock ∧ some k_ ≠ (.slice Ao86 t322.length co86 : Value).ownBlock)) ∧ some k_ ≠ (.slice Ao15 t249.length co15 : Value).ownBlock) ∧ some k_ ≠ (.slice Ao16 t252.length co16 : Value).ownBlock) ∧ some k_ ≠ (.slice Ao17 t255.length co17 : Value).ownBlock) ∧ some k_ ≠ (.slice Ao18 t258.length co18 : Value).ownBlock) ∧ some k_ ≠ (.slice Ao27 t273.length co27 : Value).ownBlock) ∧ some k_ ≠ (.slice Ao28 t276.length co28 : Value).ownBlock) ∧ some k_ ≠ (.slice Ao29 t279.length co29 : Value).ownBlock) ∧ some k_ ≠ (.slice Ao30 t282.length co30 : Value).ownBlock)) (n := t313.length) (c := co83) ?_).2.2; exact (by (with_reducible repeat (first | apply ze | apply zj | apply zi)); exact (zm (Kd_R_far7 HO315.out BK327.out (by decide)) (fun _ h_ => h_.1)))); (case side6 => exact (zo HO315.out).2.1); (case side7 => refine (zo (e := 4) (base := w.heap.size) (ok := fun k_ => (((((((((some k_ ≠ (.slice Ao83 t313.length co83 : Value).ownBlock ∧ (some k_ ≠ (.slice Ao85 t319.length co85 : Value).ownBlock ∧ some k_ ≠ (.slice Ao86 t322.length co86 : Value).ownBlock)) ∧ some k_ ≠ (.slice Ao15 t249.length co15 : Value).ownBlock) ∧ some k_ ≠ (.slice Ao16 t252.length co16 : Value).ownBlock) ∧ some k_ ≠ (.slice Ao17 t255.length co17 : Value).ownBlock) ∧ some k_ ≠ (.slice Ao18 t258.length co18 : Value).ownBlock) ∧ some k_ ≠ (.slice Ao27 t273.length co27 : Value).ownBlock) ∧ some k_ ≠ (.slice Ao28 t276.length co28 : Value).ownBlock) ∧ some k_ ≠ (.slice Ao29 t279.length co29 : Value).ownBlock) ∧ some k_ ≠ (.slice Ao30 t282.length co30 : Value).ownBlock)) (n := t316.length) (c := co84) ?_).2.2; exact (by (with_reducible repeat (first | apply ze | apply zj | apply zi)); exact (zm (Kd_R_far7 HO318.out BK327.out (by decide)) (fun _ h_ => h_.1)))); (case side8 => exact (zo HO318.out).2.1); (case side9 => refine (zo (e := 4) (base := w.heap.size) (ok := fun k_ => (((((((((some k_ ≠ (.slice Ao83 t313.length co83 : Value).ownBlock ∧ (some k_ ≠ (.slice Ao84 t316.length co84 : Value).ownBlock ∧ some k_ ≠ (.slice Ao86 t322.length co86 : Value).ownBlock)) ∧ some k_ ≠ (.slice Ao15 t249.length co15 : Value).ownBlock) ∧ some k_ ≠ (.slice Ao16 t252.length co16 : Value).ownBlock) ∧ some k_ ≠ (.slice Ao17 t255.length co17 : Value).ownBlock) ∧ some k_ ≠ (.slice Ao18 t258.length co18 : Value).ownBlock) ∧ some k_ ≠ (.slice Ao27 t273.length co27 : Value).ownBlock) ∧ some k_ ≠ (.slice Ao28 t276.length co28 : Value).ownBlock) ∧ some k_ ≠ (.slice Ao29 t279.length co29 : Value).ownBlock) ∧ some k_ ≠ (.slice Ao30 t282.length co30 : Value).ownBlock)) (n := t319.length) (c := co85) ?_).2.2; exact (by (with_reducible repeat (first | apply ze | apply zj | apply zi)); exact (zm (Kd_R_far7 HO321.out BK327.out (by decide)) (fun _ h_ => h_.1)))); (case side10 => exact (zo HO321.out).2.1); (case side11 => refine (zo (e := 4) (base := w.heap.size) (ok := fun k_ => (((((((((some k_ ≠ (.slice Ao83 t313.length co83 : Value).ownBlock ∧ (some k_ ≠ (.slice Ao84 t316.length co84 : Value).ownBlock ∧ some k_ ≠ (.slice Ao85 t319.length co85 : Value).ownBlock)) ∧ some k_ ≠ (.slice Ao15 t249.length co15 : Value).ownBlock) ∧ some k_ ≠ (.slice Ao16 t252.length co16 : Value).ownBlock) ∧ some k_ ≠ (.slice Ao17 t255.length co17 : Value).ownBlock) ∧ some k_ ≠ (.slice Ao18 t258.length co18 : Value).ownBlock) ∧ some k_ ≠ (.slice Ao27 t273.length co27 : Value).ownBlock) ∧ some k_ ≠ (.slice Ao28 t276.length co28 : Value).ownBlock) ∧ some k_ ≠ (.slice Ao29 t279.length co29 : Value).ownBlock) ∧ some k_ ≠ (.slice Ao30 t282.length co30 : Value).ownBlock)) (n := t322.length) (c := co86) ?_).2.2; exact (by (with_reducible repeat (first | apply ze | apply zj | apply zi)); exact (zm (Kd_R_far7 HO324.out BK327.out (by decide)) (fun _ h_ => h_.1)))); (case side12 => exact (zo HO324.out).2.1); (case side13 => refine (zo (e := 3) (base := w.heap.size) (ok := fun k_ => ((some k_ ≠ (.slice Ao23 t267.length co23 : Value).ownBlock ∧ some k_ ≠ (.slice Ao75 t304.length co75 : Value).ownBlock) ∧ some k_ ≠ (.slice Ao78 t307.length co78 : Value).ownBlock)) (n := t243.length) (c := co12) ?_).2.2; exact (by (with_reducible repeat (first | apply ze | apply zj | apply zi)); exact (zm (Kd_R_far7 HO_264000.out BK327.out (by decide)) (fun _ h_ => h_.1)))); (case side14 => exact (zo HO_264000.out).2.1); (case side15 => refine (zo (e := 77) (base := w.heap.size) (ok := fun k_ => (some k_ ≠ (.slice Ao26 t270.length co26 : Value).ownBlock ∧ some k_ ≠ (.slice Ao82 t310.length co82 : Value).ownBlock)) (n := t246.length) (c := co14) ?_).2.2; exact (by (with_reducible repeat (first | apply ze | apply zj | apply zi)); exact (zm (Kd_R_far7 HO_264001.out BK327.out (by decide)) (fun _ h_ => h_.1)))); (case side16 => exact (zo HO_264001.out).2.1); (case side17 => refine (zo (e := 4) (base := w.heap.size) (ok := fun k_ => (((((some k_ ≠ (.slice Ao16 t252.length co16 : Value).ownBlock ∧ (some k_ ≠ (.slice Ao17 t255.length co17 : Value).ownBlock ∧ (some k_ ≠ (.slice Ao18 t258.length co18 : Value).ownBlock ∧ (some k_ ≠ (.slice Ao27 t273.length co27 : Value).ownBlock ∧ (some k_ ≠ (.slice Ao28 t276.length co28 : Value).ownBlock ∧ (some k_ ≠ (.slice Ao29 t279.length co29 : Value).ownBlock ∧ some k_ ≠ (.slice Ao30 t282.length co30 : Value).ownBlock)))))) ∧ some k_ ≠ (.slice Ao83 t313.length co83 : Value).ownBlock) ∧ some k_ ≠ (.slice Ao84 t316.length co84 : Value).ownBlock) ∧ some k_ ≠ (.slice Ao85 t319.length co85 : Value).ownBlock) ∧ some k_ ≠ (.slice Ao86 t322.length co86 : Value).ownBlock)) (n := t249.length) (c := co15) ?_).2.2; exact (by (with_reducible repeat (first | apply ze | apply zj | apply zi)); exact (zm (Kd_R_far7 HO_264002.out BK327.out (by decide)) (fun _ h_ => h_.1)))); (case side18 => exact (zo HO_264002.out).2.1); (case side19 => refine (zo (e := 4) (base := w.heap.size) (ok := fun k_ => (((((some k_ ≠ (.slice Ao15 t249.length co15 : Value).ownBlock ∧ (some k_ ≠ (.slice Ao17 t255.length co17 : Value).ownBlock ∧ (some k_ ≠ (.slice Ao18 t258.length co18 : Value).ownBlock ∧ (some k_ ≠ (.slice Ao27 t273.length co27 : Value).ownBlock ∧ (some k_ ≠ (.slice Ao28 t276.length co28 : Value).ownBlock ∧ (some k_ ≠ (.slice Ao29 t279.length co29 : Value).ownBlock ∧ some k_ ≠ (.slice Ao30 t282.length co30 : Value).ownBlock)))))) ∧ some k_ ≠ (.slice Ao83 t313.length co83 : Value).ownBlock) ∧ some k_ ≠ (.slice Ao84 t316.length co84 : Value).ownBlock) ∧ some k_ ≠ (.slice Ao85 t319.length co85 : Value).ownBlock) ∧ some k_ ≠ (.slice Ao86 t322.length co86 : Value).ownBlock)) (n := t252.length) (c := co16) ?_).2.2; exact (by (with_reducible repeat (first | apply ze | apply zj | apply zi)); exact (zm (Kd_R_far7 HO_264003.out BK327.out (by decide)) (fun _ h_ => h_.1)))); (case side20 => exact (zo HO_264003.out).2.1); (case side21 => refine (zo (e := 4) (base := w.heap.size) (ok := fun k_ => (((((some k_ ≠ (.slice Ao15 t249.length co15 : Value).ownBlock ∧ (some k_ ≠ (.slice Ao16 t252.length co16 : Value).ownBlock ∧ (some k_ ≠ (.slice Ao18 t258.length co18 : Value).ownBlock ∧ (some k_ ≠ (.slice Ao27 t273.length co27 : Value).ownBlock ∧ (some k_ ≠ (.slice Ao28 t276.length co28 : Value).ownBlock ∧ (some k_ ≠ (.slice Ao29 t279.length co29 : Value).ownBlock ∧ some k_ ≠ (.slice Ao30 t282.length co30 : Value).ownBlock)))))) ∧ some k_ ≠ (.slice Ao83 t313.length co83 : Value).ownBlock) ∧ some k_ ≠ (.slice Ao84 t316.length co84 : Value).ownBlock) ∧ some k_ ≠ (.slice Ao85 t319.length co85 : Value).ownBlock) ∧ some k_ ≠ (.slice Ao86 t322.length co86 : Value).ownBlock)) (n := t255.length) (c := co17) ?_).2.2; exact (by (with_reducible repeat (first | apply ze | apply zj | apply zi)); exact (zm (Kd_R_far7 HO_264004.out BK327.out (by decide)) (fun _ h_ => h_.1)))); (case side22 => exact (zo HO_264004.out).2.1); (case side23 => refine (zo (e := 4) (base := w.heap.size) (ok := fun k_ => (((((some k_ ≠ (.slice Ao15 t249.length co15 : Value).ownBlock ∧ (some k_ ≠ (.slice Ao16 t252.length co16 : Value).ownBlock ∧ (some k_ ≠ (.slice Ao17 t255.length co17 : Value).ownBlock ∧ (some k_ ≠ (.slice Ao27 t273.length co27 : Value).ownBlock ∧ (some k_ ≠ (.slice Ao28 t276.length co28 : Value).ownBlock ∧ (some k_ ≠ (.slice Ao29 t279.length co29 : Value).ownBlock ∧ some k_ ≠ (.slice Ao30 t282.length co30 : Value).ownBlock)))))) ∧ some k_ ≠ (.slice Ao83 t313.length co83 : Value).ownBlock) ∧ some k_ ≠ (.slice Ao84 t316.length co84 : Value).ownBlock) ∧ some k_ ≠ (.slice Ao85 t319.length co85 : Value).ownBlock) ∧ some k_ ≠ (.slice Ao86 t322.length co86 : Value).ownBlock)) (n := t258.length) (c := co18) ?_).2.2; exact (by (with_reducible repeat (first | apply ze | apply zj | apply zi)); exact (zm (Kd_R_far7 HO_264005.out BK327.out (by decide)) (fun _ h_ => h_.1)))); (case side24 => exact (zo HO_264005.out).2.1); rintro e w94 ⟨rfl, hb⟩; refine ⟨_, rfl, ?_⟩; have n0_ := za (zh (by (with_reducible repeat (first | apply ze | apply zj | apply zi)); exact (zm (Kd_R_far7 HO_264000.out BK327.out (by decide)) (fun _ h_ => h_.1))) hb); have n1_ := za (zh (by (with_reducible repeat (first | apply ze | apply zj | apply zi)); exact (zm (Kd_R_far7 HO_264001.out BK327.out (by decide)) (fun _ h_ => h_.1))) hb); have n2_ := za (zh (by (with_reducible repeat (first | apply ze | apply zj | apply zi)); exact (zm (Kd_R_far7 HO_264002.out BK327.out (by decide)) (fun _ h_ => h_.1))) hb); have n3_ := za (zh (by (with_reducible repeat (first | apply ze | apply zj | apply zi)); exact (zm (Kd_R_far7 HO_264003.out BK327.out (by decide)) (fun _ h_ => h_.1))) hb); have n4_ := za (zh (by (with_reducible repeat (first | apply ze | apply zj | apply zi)); exact (zm (Kd_R_far7 HO_264004.out BK327.out (by decide)) (fun _ h_ => h_.1))) hb); have n5_ := za (zh (by (with_reducible repeat (first | apply ze | apply zj | apply zi)); exact (zm (Kd_R_far7 HO_264005.out BK327.out (by decide)) (fun _ h_ => h_.1))) hb); have n6_ := za (zh (by (with_reducible repeat (first | apply ze | apply zj | apply zi)); exact (zm (Kd_R_far7 HO_288000.out BK327.out (by decide)) (fun _ h_ => h_.1))) hb); have n7_ := za (zh (by (with_reducible repeat (first | apply ze | apply zj | apply zi)); exact (zm (Kd_R_far7 HO_288001.out BK327.out (by decide)) (fun _ h_ => h_.1))) hb); have n8_ := za (zh (by (with_reducible repeat (first | apply ze | apply zj | apply zi)); exact (zm (Kd_R_far7 HO_288002.out BK327.out (by decide)) (fun _ h_ => h_.1))) hb); have n9_ := za (zh (by (with_reducible repeat (first | apply ze | apply zj | apply zi)); exact (zm (Kd_R_far7 HO_288003.out BK327.out (by decide)) (fun _ h_ => h_.1))) hb); have n10_ := za (zh (by (with_reducible repeat (first | apply ze | apply zj | apply zi)); exact (zm (Kd_R_far7 HO_288004.out BK327.out (by decide)) (fun _ h_ => h_.1))) hb); have n11_ := za (zh (by (with_reducible repeat (first | apply ze | apply zj | apply zi)); exact (zm (Kd_R_far7 HO_288005.out BK327.out (by decide)) (fun _ h_ => h_.1))) hb); have n12_ := za (zh (by (with_reducible repeat (first | apply ze | apply zj | apply zi)); exact (zm (Kd_R_far7 HO306.out BK327.out (by decide)) (fun _ h_ => h_.1))) hb); have n13_ := za (zh (by (with_reducible repeat (first | apply ze | apply zj | apply zi)); exact (zm (Kd_R_far7 HO309.out BK327.out (by decide)) (fun _ h_ => h_.1))) hb); have n14_ := za (zh (by (with_reducible repeat (first | apply ze | apply zj | apply zi)); exact (zm (Kd_R_far7 HO312.out BK327.out (by decide)) (fun _ h_ => h_.1))) hb); have n15_ := za (zh (by (with_reducible repeat (first | apply ze | apply zj | apply zi)); exact (zm (Kd_R_far7 HO315.out BK327.out (by decide)) (fun _ h_ => h_.1))) hb); have n16_ := za (zh (by (with_reducible repeat (first | apply ze | apply zj | apply zi)); exact (zm (Kd_R_far7 HO318.out BK327.out (by decide)) (fun _ h_ => h_.1))) hb); have n17_ := za (zh (by (with_reducible repeat (first | apply ze | apply zj | apply zi)); exact (zm (Kd_R_far7 HO321.out BK327.out (by decide)) (fun _ h_ => h_.1))) hb); have n18_ := za (zh (by (with_reducible repeat (first | apply ze | apply zj | apply zi)); exact (zm (Kd_R_far7 HO324.out BK327.out (by decide)) (fun _ h_ => h_.1))) hb); have n19_ := za (zx (g := gb263) (o := .cells #[.slice Ao12 t243.length co12, .slice Ao14 t246.length co14, .slice Ao15 t249.length co15, .slice Ao16 t252.length co16, .slice Ao17 t255.length co17, .slice Ao18 t258.length co18, .int .i64 t261] 31 (0, 0)) (by (with_reducible repeat (first | refine zA ?_ _ | refine zz ?_ | refine zw ?_ _)); refine zB ?_ NB263_327.out _; (with_reducible repeat (first | refine zA ?_ _ | refine zz ?_ | refine zw ?_ _)); refine zB ?_ NB263_327.out _; (with_reducible repeat (first | refine zA ?_ _ | refine zz ?_ | refine zw ?_ _)); refine zB ?_ NB263_327.out _; (with_reducible repeat (first | refine zA ?_ _ | refine zz ?_ | refine zw ?_ _)); refine zB ?_ NB263_327.out _; (with_reducible repeat (first | refine zA ?_ _ | refine zz ?_ | refine zw ?_ _)); refine zB ?_ NB263_327.out _; (with_reducible repeat (first | refine zA ?_ _ | refine zz ?_ | refine zw ?_ _)); refine zB ?_ NB263_327.out _; (with_reducible repeat (first | refine zA ?_ _ | refine zz ?_ | refine zw ?_ _)); refine zB ?_ NB263_327.out _; (with_reducible repeat (first | refine zA ?_ _ | refine zz ?_ | refine zw ?_ _)); exact BK263.out) hb); have n20_ := za (zx (g := gb287) (o := .cells #[.slice Ao23 t267.length co23, .slice Ao26 t270.length co26, .slice Ao27 t273.length co27, .slice Ao28 t276.length co28, .slice Ao29 t279.length co29, .slice Ao30 t282.length co30, .int .i64 t285] 31 (0, 0)) (by (with_reducible repeat (first | refine zA ?_ _ | refine zz ?_ | refine zw ?_ _)); refine zB ?_ NB287_327.out _; (with_reducible repeat (first | refine zA ?_ _ | refine zz ?_ | refine zw ?_ _)); refine zB ?_ NB287_327.out _; (with_reducible repeat (first | refine zA ?_ _ | refine zz ?_ | refine zw ?_ _)); refine zB ?_ NB287_327.out _; (with_reducible repeat (first | refine zA ?_ _ | refine zz ?_ | refine zw ?_ _)); refine zB ?_ NB287_327.out _; (with_reducible repeat (first | refine zA ?_ _ | refine zz ?_ | refine zw ?_ _)); refine zB ?_ NB287_327.out _; (with_reducible repeat (first | refine zA ?_ _ | refine zz ?_ | refine zw ?_ _)); refine zB ?_ NB287_327.out _; (with_reducible repeat (first | refine zA ?_ _ | refine zz ?_ | refine zw ?_ _)); refine zB ?_ NB287_327.out _; (with_reducible repeat (first | refine zA ?_ _ | refine zz ?_ | refine zw ?_ _)); exact BK287.out) hb); have n21_ := za (zx (g := gb327) (o := .cells #[.slice Ao78 t307.length co78, .slice Ao82 t310.length co82, .slice Ao83 t313.length co83, .slice Ao84 t316.length co84, .slice Ao85 t319.length co85, .slice Ao86 t322.length co86, .int .i64 t325] 31 (0, 0)) (by (with_reducible repeat (first | refine zA ?_ _ | refine zz ?_ | refine zw ?_ _)); refine blk_put (cs := #[.slice Ao78 t307.length co78, .slice Ao82 t310.length co82, .slice Ao83 t313.length co83, .slice Ao84 t316.length co84, .slice Ao85 t319.length co85, .slice Ao86 t322.length co86, .int .i64 0]) ?_ 6 _ rfl; (with_reducible repeat (first | refine zA ?_ _ | refine zz ?_ | refine zw ?_ _)); refine blk_put (cs := #[.slice Ao78 t307.length co78, .slice Ao82 t310.length co82, .slice Ao83 t313.length co83, .slice Ao84 t316.length co84, .slice Ao85 t319.length co85, .slice none 0 0, .int .i64 0]) ?_ 5 _ rfl; (with_reducible repeat (first | refine zA ?_ _ | refine zz ?_ | refine zw ?_ _)); refine blk_put (cs := #[.slice Ao78 t307.length co78, .slice Ao82 t310.length co82, .slice Ao83 t313.length co83, .slice Ao84 t316.length co84, .slice none 0 0, .slice none 0 0, .int .i64 0]) ?_ 4 _ rfl; (with_reducible repeat (first | refine zA ?_ _ | refine zz ?_ | refine zw ?_ _)); refine blk_put (cs := #[.slice Ao78 t307.length co78, .slice Ao82 t310.length co82, .slice Ao83 t313.length co83, .slice none 0 0, .slice none 0 0, .slice none 0 0, .int .i64 0]) ?_ 3 _ rfl; (with_reducible repeat (first | refine zA ?_ _ | refine zz ?_ | refine zw ?_ _)); refine blk_put (cs := #[.slice Ao78 t307.length co78, .slice Ao82 t310.length co82, .slice none 0 0, .slice none 0 0, .slice none 0 0, .slice none 0 0, .int .i64 0]) ?_ 2 _ rfl; (with_reducible repeat (first | refine zA ?_ _ | refine zz ?_ | refine zw ?_ _)); refine blk_put (cs := #[.slice Ao78 t307.length co78, .slice none 0 0, .slice none 0 0, .slice none 0 0, .slice none 0 0, .slice none 0 0, .int .i64 0]) ?_ 1 _ rfl; (with_reducible repeat (first | refine zA ?_ _ | refine zz ?_ | refine zw ?_ _)); refine blk_put (cs := #[.slice none 0 0, .slice none 0 0, .slice none 0 0, .slice none 0 0, .slice none 0 0, .slice none 0 0, .int .i64 0]) ?_ 0 _ rfl; (with_reducible repeat (first | refine zA ?_ _ | refine zz ?_ | refine zw ?_ _)); exact BK327.out) hb); have n22_ := za (below_step (by repeat (first | (with_reducible first | exact HB.out | apply zs | apply zD | apply zt | refine zu ?_ GE263.out | refine zu ?_ GE287.out | refine zu ?_ GE327.out) | exact HB.out)) hb); clear HO_264000; clear HO_264001; clear HO_264002; clear HO_264003; clear HO_264004; clear HO_264005; clear HO_288000; clear HO_288001; clear HO_288002; clear HO_288003; clear HO_288004; clear HO_288005; clear HO306; clear HO309; clear HO312; clear HO315; clear HO318; clear HO321; clear HO324; clear BK263; clear BK287; clear BK327; clear HB; have HO_264000 := n0_; have HO_264001 := n1_; have HO_264002 := n2_; have HO_264003 := n3_; have HO_264004 := n4_; have HO_264005 := n5_; have HO_288000 := n6_; have HO_288001 := n7_; have HO_288002 := n8_; have HO_288003 := n9_; have HO_288004 := n10_; have HO_288005 := n11_; have HO306 := n12_; have HO309 := n13_; have HO312 := n14_; have HO315 := n15_; have HO318 := n16_; have HO321 := n17_; have HO324 := n18_; have BK263 := n19_; have BK287 := n20_; have BK327 := n21_; have HB := n22_; clear n0_ n1_ n2_ n3_ n4_ n5_ n6_ n7_ n8_ n9_ n10_ n11_ n12_ n13_ n14_ n15_ n16_ n17_ n18_ n19_ n20_ n21_ n22_; (try clear hb); (try clear hb2); (try clear hk); (try clear hi)))
             go_meet
             case rel => exact ⟨_, ((t326 != t262)), (by first | rfl | (simp; done) | (simp [*]; done)), H', ⟨by have := HJ6.out; have := HJ45.out; first | omega | exact Nat.le_refl _⟩, ⟨by (with_reducible repeat (first | apply ze | apply zj | apply zi)); exact zm HO_264000.out (fun _ hk => ⟨hk.1.1, hk.2⟩)⟩, ⟨by (with_reducible repeat (first | apply ze | apply zj | apply zi)); exact HO_264001.out⟩, ⟨by (with_reducible repeat (first | apply ze | apply zj | apply zi)); exact zm HO_264002.out (fun _ hk => ⟨hk.1.1.1.1.1, ⟨hk.1.1.1.1.2.1, ⟨hk.1.1.1.1.2.2.1, ⟨hk.1.1.1.1.2.2.2.1, ⟨hk.1.1.1.1.2.2.2.2.1, ⟨hk.1.1.1.1.2.2.2.2.2.1, ⟨hk.1.1.1.1.2.2.2.2.2.2, ⟨hk.1.1.1.2, ⟨hk.1.1.2, ⟨hk.1.2, hk.2⟩⟩⟩⟩⟩⟩⟩⟩⟩⟩)⟩, ⟨by (with_reducible repeat (first | apply ze | apply zj | apply zi)); exact zm HO_264003.out (fun _ hk => ⟨hk.1.1.1.1.1, ⟨hk.1.1.1.1.2.1, ⟨hk.1.1.1.1.2.2.1, ⟨hk.1.1.1.1.2.2.2.1, ⟨hk.1.1.1.1.2.2.2.2.1, ⟨hk.1.1.1.1.2.2.2.2.2.1, ⟨hk.1.1.1.1.2.2.2.2.2.2, ⟨hk.1.1.1.2, ⟨hk.1.1.2, ⟨hk.1.2, hk.2⟩⟩⟩⟩⟩⟩⟩⟩⟩⟩)⟩, ⟨by (with_reducible repeat (first | apply ze | apply zj | apply zi)); exact zm HO_264004.out (fun _ hk => ⟨hk.1.1.1.1.1, ⟨hk.1.1.1.1.2.1, ⟨hk.1.1.1.1.2.2.1, ⟨hk.1.1.1.1.2.2.2.1, ⟨hk.1.1.1.1.2.2.2.2.1, ⟨hk.1.1.1.1.2.2.2.2.2.1, ⟨hk.1.1.1.1.2.2.2.2.2.2, ⟨hk.1.1.1.2, ⟨hk.1.1.2, ⟨hk.1.2, hk.2⟩⟩⟩⟩⟩⟩⟩⟩⟩⟩)⟩, ⟨by (with_reducible repeat (first | apply ze | apply zj | apply zi)); exact zm HO_264005.out (fun _ hk => ⟨hk.1.1.1.1.1, ⟨hk.1.1.1.1.2.1, ⟨hk.1.1.1.1.2.2.1, ⟨hk.1.1.1.1.2.2.2.1, ⟨hk.1.1.1.1.2.2.2.2.1, ⟨hk.1.1.1.1.2.2.2.2.2.1, ⟨hk.1.1.1.1.2.2.2.2.2.2, ⟨hk.1.1.1.2, ⟨hk.1.1.2, ⟨hk.1.2, hk.2⟩⟩⟩⟩⟩⟩⟩⟩⟩⟩)⟩, ⟨by (with_reducible repeat (first | apply ze | apply zj | apply zi)); exact zm HO_288000.out (fun _ hk => ⟨hk.1.1, hk.2⟩)⟩, ⟨by (with_reducible repeat (first | apply ze | apply zj | apply zi)); exact HO_288001.out⟩, ⟨by (with_reducible repeat (first | apply ze | apply zj | apply zi)); exact zm HO_288002.out (fun _ hk => ⟨hk.1.1.1.1.1, ⟨hk.1.1.1.1.2.1, ⟨hk.1.1.1.1.2.2.1, ⟨hk.1.1.1.1.2.2.2.1, ⟨hk.1.1.1.1.2.2.2.2.1, ⟨hk.1.1.1.1.2.2.2.2.2.1, ⟨hk.1.1.1.1.2.2.2.2.2.2, ⟨hk.1.1.1.2, ⟨hk.1.1.2, ⟨hk.1.2, hk.2⟩⟩⟩⟩⟩⟩⟩⟩⟩⟩)⟩, ⟨by (with_reducible repeat (first | apply ze | apply zj | apply zi)); exact zm HO_288003.out (fun _ hk => ⟨hk.1.1.1.1.1, ⟨hk.1.1.1.1.2.1, ⟨hk.1.1.1.1.2.2.1, ⟨hk.1.1.1.1.2.2.2.1, ⟨hk.1.1.1.1.2.2.2.2.1, ⟨hk.1.1.1.1.2.2.2.2.2.1, ⟨hk.1.1.1.1.2.2.2.2.2.2, ⟨hk.1.1.1.2, ⟨hk.1.1.2, ⟨hk.1.2, hk.2⟩⟩⟩⟩⟩⟩⟩⟩⟩⟩)⟩, ⟨by (with_reducible repeat (first | apply ze | apply zj | apply zi)); exact zm HO_288004.out (fun _ hk => ⟨hk.1.1.1.1.1, ⟨hk.1.1.1.1.2.1, ⟨hk.1.1.1.1.2.2.1, ⟨hk.1.1.1.1.2.2.2.1, ⟨hk.1.1.1.1.2.2.2.2.1, ⟨hk.1.1.1.1.2.2.2.2.2.1, ⟨hk.1.1.1.1.2.2.2.2.2.2, ⟨hk.1.1.1.2, ⟨hk.1.1.2, ⟨hk.1.2, hk.2⟩⟩⟩⟩⟩⟩⟩⟩⟩⟩)⟩, ⟨by (with_reducible repeat (first | apply ze | apply zj | apply zi)); exact zm HO_288005.out (fun _ hk => ⟨hk.1.1.1.1.1, ⟨hk.1.1.1.1.2.1, ⟨hk.1.1.1.1.2.2.1, ⟨hk.1.1.1.1.2.2.2.1, ⟨hk.1.1.1.1.2.2.2.2.1, ⟨hk.1.1.1.1.2.2.2.2.2.1, ⟨hk.1.1.1.1.2.2.2.2.2.2, ⟨hk.1.1.1.2, ⟨hk.1.1.2, ⟨hk.1.2, hk.2⟩⟩⟩⟩⟩⟩⟩⟩⟩⟩)⟩, ⟨by (with_reducible repeat (first | apply ze | apply zj | apply zi)); exact zm HO309.out (fun _ hk => ⟨hk.1.1.2, hk.1.2⟩)⟩, ⟨by (with_reducible repeat (first | apply ze | apply zj | apply zi)); exact zm HO312.out (fun _ hk => ⟨hk.1.2, hk.2⟩)⟩, ⟨by (with_reducible repeat (first | apply ze | apply zj | apply zi)); exact zm HO315.out (fun _ hk => ⟨hk.1.1.1.1.1.1.1.2, ⟨hk.1.1.1.1.1.1.2, ⟨hk.1.1.1.1.1.2, ⟨hk.1.1.1.1.2, ⟨hk.1.1.1.2, ⟨hk.1.1.2, ⟨hk.1.2, ⟨hk.2, ⟨hk.1.1.1.1.1.1.1.1.1, ⟨hk.1.1.1.1.1.1.1.1.2.1, hk.1.1.1.1.1.1.1.1.2.2⟩⟩⟩⟩⟩⟩⟩⟩⟩⟩)⟩, ⟨by (with_reducible repeat (first | apply ze | apply zj | apply zi)); exact zm HO318.out (fun _ hk => ⟨hk.1.1.1.1.1.1.1.2, ⟨hk.1.1.1.1.1.1.2, ⟨hk.1.1.1.1.1.2, ⟨hk.1.1.1.1.2, ⟨hk.1.1.1.2, ⟨hk.1.1.2, ⟨hk.1.2, ⟨hk.2, ⟨hk.1.1.1.1.1.1.1.1.1, ⟨hk.1.1.1.1.1.1.1.1.2.1, hk.1.1.1.1.1.1.1.1.2.2⟩⟩⟩⟩⟩⟩⟩⟩⟩⟩)⟩, ⟨by (with_reducible repeat (first | apply ze | apply zj | apply zi)); exact zm HO321.out (fun _ hk => ⟨hk.1.1.1.1.1.1.1.2, ⟨hk.1.1.1.1.1.1.2, ⟨hk.1.1.1.1.1.2, ⟨hk.1.1.1.1.2, ⟨hk.1.1.1.2, ⟨hk.1.1.2, ⟨hk.1.2, ⟨hk.2, ⟨hk.1.1.1.1.1.1.1.1.1, ⟨hk.1.1.1.1.1.1.1.1.2.1, hk.1.1.1.1.1.1.1.1.2.2⟩⟩⟩⟩⟩⟩⟩⟩⟩⟩)⟩, ⟨by (with_reducible repeat (first | apply ze | apply zj | apply zi)); exact zm HO324.out (fun _ hk => ⟨hk.1.1.1.1.1.1.1.2, ⟨hk.1.1.1.1.1.1.2, ⟨hk.1.1.1.1.1.2, ⟨hk.1.1.1.1.2, ⟨hk.1.1.1.2, ⟨hk.1.1.2, ⟨hk.1.2, ⟨hk.2, ⟨hk.1.1.1.1.1.1.1.1.1, ⟨hk.1.1.1.1.1.1.1.1.2.1, hk.1.1.1.1.1.1.1.1.2.2⟩⟩⟩⟩⟩⟩⟩⟩⟩⟩)⟩, ⟨by (with_reducible repeat (first | refine zA ?_ _ | refine zz ?_ | refine zw ?_ _)); exact BK263.out⟩, ⟨by (with_reducible repeat (first | refine zA ?_ _ | refine zz ?_ | refine zw ?_ _)); exact BK287.out⟩, ⟨by (with_reducible repeat (first | refine zA ?_ _ | refine zz ?_ | refine zw ?_ _)); exact BK327.out⟩, ⟨by repeat (first | (with_reducible first | exact HB.out | apply zs | apply zD | apply zt | refine zu ?_ GE263.out | refine zu ?_ GE287.out | refine zu ?_ GE327.out) | exact HB.out)⟩⟩
            ·
             replace c88 := Bool.eq_false_iff.mpr c88
             subst c88
             have H1 : (laws_FnExactNewData.j2 kj45 t296 true t297 t298 t299 t300 t301 t302 t285) = some r := by rw [if_neg (show ¬ (false = true) by decide)] at H; exact H
             clear H
             have H := H1
             clear H1
             have H' := za H
             clear H
             have hnb95 := NB327_263.out
             have hnc95 := NB263_327.out
             have hnb96 := NB327_287.out
             have hnc96 := NB287_327.out
             have hcz97_0 : w77.cell? ⟨gb327, 0, none⟩ = some (.slice none 0 0) := (zy BK327.out 0).trans rfl
             have hcz97_1 : w77.cell? ⟨gb327, 1, none⟩ = some (.slice none 0 0) := (zy BK327.out 1).trans rfl
             have hcz97_2 : w77.cell? ⟨gb327, 2, none⟩ = some (.slice none 0 0) := (zy BK327.out 2).trans rfl
             have hcz97_3 : w77.cell? ⟨gb327, 3, none⟩ = some (.slice none 0 0) := (zy BK327.out 3).trans rfl
             have hcz97_4 : w77.cell? ⟨gb327, 4, none⟩ = some (.slice none 0 0) := (zy BK327.out 4).trans rfl
             have hcz97_5 : w77.cell? ⟨gb327, 5, none⟩ = some (.slice none 0 0) := (zy BK327.out 5).trans rfl
             have hcz97_6 : w77.cell? ⟨gb327, 6, none⟩ = some (.int .i64 0) := (zy BK327.out 6).trans rfl
             have hfz97_0 := zC BK327.out 0
             have hfz97_1 := zC BK327.out 1
             have hfz97_2 := zC BK327.out 2
             have hfz97_3 := zC BK327.out 3
             have hfz97_4 := zC BK327.out 4
             have hfz97_5 := zC BK327.out 5
             have hfz97_6 := zC BK327.out 6
             have hnb98 := NB263_287.out
             have hnc98 := NB287_263.out
             have hcz99_0 : w77.cell? ⟨gb263, 0, none⟩ = some (.slice Ao12 t243.length co12) := (zy BK263.out 0).trans rfl
             have hcz99_1 : w77.cell? ⟨gb263, 1, none⟩ = some (.slice Ao14 t246.length co14) := (zy BK263.out 1).trans rfl
             have hcz99_2 : w77.cell? ⟨gb263, 2, none⟩ = some (.slice Ao15 t249.length co15) := (zy BK263.out 2).trans rfl
             have hcz99_3 : w77.cell? ⟨gb263, 3, none⟩ = some (.slice Ao16 t252.length co16) := (zy BK263.out 3).trans rfl
             have hcz99_4 : w77.cell? ⟨gb263, 4, none⟩ = some (.slice Ao17 t255.length co17) := (zy BK263.out 4).trans rfl
             have hcz99_5 : w77.cell? ⟨gb263, 5, none⟩ = some (.slice Ao18 t258.length co18) := (zy BK263.out 5).trans rfl
             have hcz99_6 : w77.cell? ⟨gb263, 6, none⟩ = some (.int .i64 t261) := (zy BK263.out 6).trans rfl
             have hfz99_0 := zC BK263.out 0
             have hfz99_1 := zC BK263.out 1
             have hfz99_2 := zC BK263.out 2
             have hfz99_3 := zC BK263.out 3
             have hfz99_4 := zC BK263.out 4
             have hfz99_5 := zC BK263.out 5
             have hfz99_6 := zC BK263.out 6
             go_wp2_with (first | ((with_reducible refine gate_callee (f := 15) rfl ?_); refine goesL_ (some 78) rfl rfl Try.func15 (by kernel_rfl) rfl #[.agg #[.slice Ao78 t307.length co78, .slice Ao82 t310.length co82, .slice Ao83 t313.length co83, .slice Ao84 t316.length co84, .slice Ao85 t319.length co85, .slice Ao86 t322.length co86, .int .i64 t325], .agg #[.slice Ao12 t243.length co12, .slice Ao14 t246.length co14, .slice Ao15 t249.length co15, .slice Ao16 t252.length co16, .slice Ao17 t255.length co17, .slice Ao18 t258.length co18, .int .i64 t261]] rfl (by (try simp only [List.map_toArray, List.map_cons, List.map_nil]); first | done | rfl | (simp only [List.length_drop, List.length_take]; rfl)) ?_; (with_reducible refine (laws_eqData.calls kj45 _ _ t307 _ _ t310 _ _ t313 _ _ t316 _ _ t319 _ _ t322 t325 _ _ t243 _ _ t246 _ _ t249 _ _ t252 _ _ t255 _ _ t258 t261 false _ ?side1 ?side2 ?side3 ?side4 ?side5 ?side6 ?side7 ?side8 ?side9 ?side10 ?side11 ?side12 ?side13 ?side14 ?side15 ?side16 ?side17 ?side18 ?side19 ?side20 ?side21 ?side22 ?side23 ?side24 A87.out).mono ?_); (case side1 => refine (zo (e := 3) (base := w.heap.size) (ok := fun k_ => (((True ∧ some k_ ≠ (.slice Ao12 t243.length co12 : Value).ownBlock) ∧ some k_ ≠ (.slice Ao23 t267.length co23 : Value).ownBlock) ∧ some k_ ≠ (.slice Ao75 t304.length co75 : Value).ownBlock)) (n := t307.length) (c := co78) ?_).2.2; exact (by (with_reducible repeat (first | apply ze | apply zj | apply zi)); exact (zm (Kd_R_far7 HO309.out BK327.out (by decide)) (fun _ h_ => h_.1)))); (case side2 => exact (zo HO309.out).2.1); (case side3 => refine (zo (e := 77) (base := w.heap.size) (ok := fun k_ => ((True ∧ some k_ ≠ (.slice Ao14 t246.length co14 : Value).ownBlock) ∧ some k_ ≠ (.slice Ao26 t270.length co26 : Value).ownBlock)) (n := t310.length) (c := co82) ?_).2.2; exact (by (with_reducible repeat (first | apply ze | apply zj | apply zi)); exact (zm (Kd_R_far7 HO312.out BK327.out (by decide)) (fun _ h_ => h_.1)))); (case side4 => exact (zo HO312.out).2.1); (case side5 => refine (zo (e := 4) (base := w.heap.size) (ok := fun k_ => (((((((((some k_ ≠ (.slice Ao84 t316.length co84 : Value).ownBlock ∧ (some k_ ≠ (.slice Ao85 t319.length co85 : Value).ownBlock ∧ some k_ ≠ (.slice Ao86 t322.length co86 : Value).ownBlock)) ∧ some k_ ≠ (.slice Ao15 t249.length co15 : Value).ownBlock) ∧ some k_ ≠ (.slice Ao16 t252.length co16 : Value).ownBlock) ∧ some k_ ≠ (.slice Ao17 t255.length co17 : Value).ownBlock) ∧ some k_ ≠ (.slice Ao18 t258.length co18 : Value).ownBlock) ∧ some k_ ≠ (.slice Ao27 t273.length co27 : Value).ownBlock) ∧ some k_ ≠ (.slice Ao28 t276.length co28 : Value).ownBlock) ∧ some k_ ≠ (.slice Ao29 t279.length co29 : Value).ownBlock) ∧ some k_ ≠ (.slice Ao30 t282.length co30 : Value).ownBlock)) (n := t313.length) (c := co83) ?_).2.2; exact (by (with_reducible repeat (first | apply ze | apply zj | apply zi)); exact (zm (Kd_R_far7 HO315.out BK327.out (by decide)) (fun _ h_ => h_.1)))); (case side6 => exact (zo HO315.out).2.1); (case side7 => refine (zo (e := 4) (base := w.heap.size) (ok := fun k_ => (((((((((some k_ ≠ (.slice Ao83 t313.length co83 : Value).ownBlock ∧ (some k_ ≠ (.slice Ao85 t319.length co85 : Value).ownBlock ∧ some k_ ≠ (.slice Ao86 t322.length co86 : Value).ownBlock)) ∧ some k_ ≠ (.slice Ao15 t249.length co15 : Value).ownBlock) ∧ some k_ ≠ (.slice Ao16 t252.length co16 : Value).ownBlock) ∧ some k_ ≠ (.slice Ao17 t255.length co17 : Value).ownBlock) ∧ some k_ ≠ (.slice Ao18 t258.length co18 : Value).ownBlock) ∧ some k_ ≠ (.slice Ao27 t273.length co27 : Value).ownBlock) ∧ some k_ ≠ (.slice Ao28 t276.length co28 : Value).ownBlock) ∧ some k_ ≠ (.slice Ao29 t279.length co29 : Value).ownBlock) ∧ some k_ ≠ (.slice Ao30 t282.length co30 : Value).ownBlock)) (n := t316.length) (c := co84) ?_).2.2; exact (by (with_reducible repeat (first | apply ze | apply zj | apply zi)); exact (zm (Kd_R_far7 HO318.out BK327.out (by decide)) (fun _ h_ => h_.1)))); (case side8 => exact (zo HO318.out).2.1); (case side9 => refine (zo (e := 4) (base := w.heap.size) (ok := fun k_ => (((((((((some k_ ≠ (.slice Ao83 t313.length co83 : Value).ownBlock ∧ (some k_ ≠ (.slice Ao84 t316.length co84 : Value).ownBlock ∧ some k_ ≠ (.slice Ao86 t322.length co86 : Value).ownBlock)) ∧ some k_ ≠ (.slice Ao15 t249.length co15 : Value).ownBlock) ∧ some k_ ≠ (.slice Ao16 t252.length co16 : Value).ownBlock) ∧ some k_ ≠ (.slice Ao17 t255.length co17 : Value).ownBlock) ∧ some k_ ≠ (.slice Ao18 t258.length co18 : Value).ownBlock) ∧ some k_ ≠ (.slice Ao27 t273.length co27 : Value).ownBlock) ∧ some k_ ≠ (.slice Ao28 t276.length co28 : Value).ownBlock) ∧ some k_ ≠ (.slice Ao29 t279.length co29 : Value).ownBlock) ∧ some k_ ≠ (.slice Ao30 t282.length co30 : Value).ownBlock)) (n := t319.length) (c := co85) ?_).2.2; exact (by (with_reducible repeat (first | apply ze | apply zj | apply zi)); exact (zm (Kd_R_far7 HO321.out BK327.out (by decide)) (fun _ h_ => h_.1)))); (case side10 => exact (zo HO321.out).2.1); (case side11 => refine (zo (e := 4) (base := w.heap.size) (ok := fun k_ => (((((((((some k_ ≠ (.slice Ao83 t313.length co83 : Value).ownBlock ∧ (some k_ ≠ (.slice Ao84 t316.length co84 : Value).ownBlock ∧ some k_ ≠ (.slice Ao85 t319.length co85 : Value).ownBlock)) ∧ some k_ ≠ (.slice Ao15 t249.length co15 : Value).ownBlock) ∧ some k_ ≠ (.slice Ao16 t252.length co16 : Value).ownBlock) ∧ some k_ ≠ (.slice Ao17 t255.length co17 : Value).ownBlock) ∧ some k_ ≠ (.slice Ao18 t258.length co18 : Value).ownBlock) ∧ some k_ ≠ (.slice Ao27 t273.length co27 : Value).ownBlock) ∧ some k_ ≠ (.slice Ao28 t276.length co28 : Value).ownBlock) ∧ some k_ ≠ (.slice Ao29 t279.length co29 : Value).ownBlock) ∧ some k_ ≠ (.slice Ao30 t282.length co30 : Value).ownBlock)) (n := t322.length) (c := co86) ?_).2.2; exact (by (with_reducible repeat (first | apply ze | apply zj | apply zi)); exact (zm (Kd_R_far7 HO324.out BK327.out (by decide)) (fun _ h_ => h_.1)))); (case side12 => exact (zo HO324.out).2.1); (case side13 => refine (zo (e := 3) (base := w.heap.size) (ok := fun k_ => ((some k_ ≠ (.slice Ao23 t267.length co23 : Value).ownBlock ∧ some k_ ≠ (.slice Ao75 t304.length co75 : Value).ownBlock) ∧ some k_ ≠ (.slice Ao78 t307.length co78 : Value).ownBlock)) (n := t243.length) (c := co12) ?_).2.2; exact (by (with_reducible repeat (first | apply ze | apply zj | apply zi)); exact (zm (Kd_R_far7 HO_264000.out BK327.out (by decide)) (fun _ h_ => h_.1)))); (case side14 => exact (zo HO_264000.out).2.1); (case side15 => refine (zo (e := 77) (base := w.heap.size) (ok := fun k_ => (some k_ ≠ (.slice Ao26 t270.length co26 : Value).ownBlock ∧ some k_ ≠ (.slice Ao82 t310.length co82 : Value).ownBlock)) (n := t246.length) (c := co14) ?_).2.2; exact (by (with_reducible repeat (first | apply ze | apply zj | apply zi)); exact (zm (Kd_R_far7 HO_264001.out BK327.out (by decide)) (fun _ h_ => h_.1)))); (case side16 => exact (zo HO_264001.out).2.1); (case side17 => refine (zo (e := 4) (base := w.heap.size) (ok := fun k_ => (((((some k_ ≠ (.slice Ao16 t252.length co16 : Value).ownBlock ∧ (some k_ ≠ (.slice Ao17 t255.length co17 : Value).ownBlock ∧ (some k_ ≠ (.slice Ao18 t258.length co18 : Value).ownBlock ∧ (some k_ ≠ (.slice Ao27 t273.length co27 : Value).ownBlock ∧ (some k_ ≠ (.slice Ao28 t276.length co28 : Value).ownBlock ∧ (some k_ ≠ (.slice Ao29 t279.length co29 : Value).ownBlock ∧ some k_ ≠ (.slice Ao30 t282.length co30 : Value).ownBlock)))))) ∧ some k_ ≠ (.slice Ao83 t313.length co83 : Value).ownBlock) ∧ some k_ ≠ (.slice Ao84 t316.length co84 : Value).ownBlock) ∧ some k_ ≠ (.slice Ao85 t319.length co85 : Value).ownBlock) ∧ some k_ ≠ (.slice Ao86 t322.length co86 : Value).ownBlock)) (n := t249.length) (c := co15) ?_).2.2; exact (by (with_reducible repeat (first | apply ze | apply zj | apply zi)); exact (zm (Kd_R_far7 HO_264002.out BK327.out (by decide)) (fun _ h_ => h_.1)))); (case side18 => exact (zo HO_264002.out).2.1); (case side19 => refine (zo (e := 4) (base := w.heap.size) (ok := fun k_ => (((((some k_ ≠ (.slice Ao15 t249.length co15 : Value).ownBlock ∧ (some k_ ≠ (.slice Ao17 t255.length co17 : Value).ownBlock ∧ (some k_ ≠ (.slice Ao18 t258.length co18 : Value).ownBlock ∧ (some k_ ≠ (.slice Ao27 t273.length co27 : Value).ownBlock ∧ (some k_ ≠ (.slice Ao28 t276.length co28 : Value).ownBlock ∧ (some k_ ≠ (.slice Ao29 t279.length co29 : Value).ownBlock ∧ some k_ ≠ (.slice Ao30 t282.length co30 : Value).ownBlock)))))) ∧ some k_ ≠ (.slice Ao83 t313.length co83 : Value).ownBlock) ∧ some k_ ≠ (.slice Ao84 t316.length co84 : Value).ownBlock) ∧ some k_ ≠ (.slice Ao85 t319.length co85 : Value).ownBlock) ∧ some k_ ≠ (.slice Ao86 t322.length co86 : Value).ownBlock)) (n := t252.length) (c := co16) ?_).2.2; exact (by (with_reducible repeat (first | apply ze | apply zj | apply zi)); exact (zm (Kd_R_far7 HO_264003.out BK327.out (by decide)) (fun _ h_ => h_.1)))); (case side20 => exact (zo HO_264003.out).2.1); (case side21 => refine (zo (e := 4) (base := w.heap.size) (ok := fun k_ => (((((some k_ ≠ (.slice Ao15 t249.length co15 : Value).ownBlock ∧ (some k_ ≠ (.slice Ao16 t252.length co16 : Value).ownBlock ∧ (some k_ ≠ (.slice Ao18 t258.length co18 : Value).ownBlock ∧ (some k_ ≠ (.slice Ao27 t273.length co27 : Value).ownBlock ∧ (some k_ ≠ (.slice Ao28 t276.length co28 : Value).ownBlock ∧ (some k_ ≠ (.slice Ao29 t279.length co29 : Value).ownBlock ∧ some k_ ≠ (.slice Ao30 t282.length co30 : Value).ownBlock)))))) ∧ some k_ ≠ (.slice Ao83 t313.length co83 : Value).ownBlock) ∧ some k_ ≠ (.slice Ao84 t316.length co84 : Value).ownBlock) ∧ some k_ ≠ (.slice Ao85 t319.length co85 : Value).ownBlock) ∧ some k_ ≠ (.slice Ao86 t322.length co86 : Value).ownBlock)) (n := t255.length) (c := co17) ?_).2.2; exact (by (with_reducible repeat (first | apply ze | apply zj | apply zi)); exact (zm (Kd_R_far7 HO_264004.out BK327.out (by decide)) (fun _ h_ => h_.1)))); (case side22 => exact (zo HO_264004.out).2.1); (case side23 => refine (zo (e := 4) (base := w.heap.size) (ok := fun k_ => (((((some k_ ≠ (.slice Ao15 t249.length co15 : Value).ownBlock ∧ (some k_ ≠ (.slice Ao16 t252.length co16 : Value).ownBlock ∧ (some k_ ≠ (.slice Ao17 t255.length co17 : Value).ownBlock ∧ (some k_ ≠ (.slice Ao27 t273.length co27 : Value).ownBlock ∧ (some k_ ≠ (.slice Ao28 t276.length co28 : Value).ownBlock ∧ (some k_ ≠ (.slice Ao29 t279.length co29 : Value).ownBlock ∧ some k_ ≠ (.slice Ao30 t282.length co30 : Value).ownBlock)))))) ∧ some k_ ≠ (.slice Ao83 t313.length co83 : Value).ownBlock) ∧ some k_ ≠ (.slice Ao84 t316.length co84 : Value).ownBlock) ∧ some k_ ≠ (.slice Ao85 t319.length co85 : Value).ownBlock) ∧ some k_ ≠ (.slice Ao86 t322.length co86 : Value).ownBlock)) (n := t258.length) (c := co18) ?_).2.2; exact (by (with_reducible repeat (first | apply ze | apply zj | apply zi)); exact (zm (Kd_R_far7 HO_264005.out BK327.out (by decide)) (fun _ h_ => h_.1)))); (case side24 => exact (zo HO_264005.out).2.1); rintro e w100 ⟨rfl, hb⟩; refine ⟨_, rfl, ?_⟩; have n0_ := za (zh (by (with_reducible repeat (first | apply ze | apply zj | apply zi)); exact (zm (Kd_R_far7 HO_264000.out BK327.out (by decide)) (fun _ h_ => h_.1))) hb); have n1_ := za (zh (by (with_reducible repeat (first | apply ze | apply zj | apply zi)); exact (zm (Kd_R_far7 HO_264001.out BK327.out (by decide)) (fun _ h_ => h_.1))) hb); have n2_ := za (zh (by (with_reducible repeat (first | apply ze | apply zj | apply zi)); exact (zm (Kd_R_far7 HO_264002.out BK327.out (by decide)) (fun _ h_ => h_.1))) hb); have n3_ := za (zh (by (with_reducible repeat (first | apply ze | apply zj | apply zi)); exact (zm (Kd_R_far7 HO_264003.out BK327.out (by decide)) (fun _ h_ => h_.1))) hb); have n4_ := za (zh (by (with_reducible repeat (first | apply ze | apply zj | apply zi)); exact (zm (Kd_R_far7 HO_264004.out BK327.out (by decide)) (fun _ h_ => h_.1))) hb); have n5_ := za (zh (by (with_reducible repeat (first | apply ze | apply zj | apply zi)); exact (zm (Kd_R_far7 HO_264005.out BK327.out (by decide)) (fun _ h_ => h_.1))) hb); have n6_ := za (zh (by (with_reducible repeat (first | apply ze | apply zj | apply zi)); exact (zm (Kd_R_far7 HO_288000.out BK327.out (by decide)) (fun _ h_ => h_.1))) hb); have n7_ := za (zh (by (with_reducible repeat (first | apply ze | apply zj | apply zi)); exact (zm (Kd_R_far7 HO_288001.out BK327.out (by decide)) (fun _ h_ => h_.1))) hb); have n8_ := za (zh (by (with_reducible repeat (first | apply ze | apply zj | apply zi)); exact (zm (Kd_R_far7 HO_288002.out BK327.out (by decide)) (fun _ h_ => h_.1))) hb); have n9_ := za (zh (by (with_reducible repeat (first | apply ze | apply zj | apply zi)); exact (zm (Kd_R_far7 HO_288003.out BK327.out (by decide)) (fun _ h_ => h_.1))) hb); have n10_ := za (zh (by (with_reducible repeat (first | apply ze | apply zj | apply zi)); exact (zm (Kd_R_far7 HO_288004.out BK327.out (by decide)) (fun _ h_ => h_.1))) hb); have n11_ := za (zh (by (with_reducible repeat (first | apply ze | apply zj | apply zi)); exact (zm (Kd_R_far7 HO_288005.out BK327.out (by decide)) (fun _ h_ => h_.1))) hb); have n12_ := za (zh (by (with_reducible repeat (first | apply ze | apply zj | apply zi)); exact (zm (Kd_R_far7 HO306.out BK327.out (by decide)) (fun _ h_ => h_.1))) hb); have n13_ := za (zh (by (with_reducible repeat (first | apply ze | apply zj | apply zi)); exact (zm (Kd_R_far7 HO309.out BK327.out (by decide)) (fun _ h_ => h_.1))) hb); have n14_ := za (zh (by (with_reducible repeat (first | apply ze | apply zj | apply zi)); exact (zm (Kd_R_far7 HO312.out BK327.out (by decide)) (fun _ h_ => h_.1))) hb); have n15_ := za (zh (by (with_reducible repeat (first | apply ze | apply zj | apply zi)); exact (zm (Kd_R_far7 HO315.out BK327.out (by decide)) (fun _ h_ => h_.1))) hb); have n16_ := za (zh (by (with_reducible repeat (first | apply ze | apply zj | apply zi)); exact (zm (Kd_R_far7 HO318.out BK327.out (by decide)) (fun _ h_ => h_.1))) hb); have n17_ := za (zh (by (with_reducible repeat (first | apply ze | apply zj | apply zi)); exact (zm (Kd_R_far7 HO321.out BK327.out (by decide)) (fun _ h_ => h_.1))) hb); have n18_ := za (zh (by (with_reducible repeat (first | apply ze | apply zj | apply zi)); exact (zm (Kd_R_far7 HO324.out BK327.out (by decide)) (fun _ h_ => h_.1))) hb); have n19_ := za (zx (g := gb263) (o := .cells #[.slice Ao12 t243.length co12, .slice Ao14 t246.length co14, .slice Ao15 t249.length co15, .slice Ao16 t252.length co16, .slice Ao17 t255.length co17, .slice Ao18 t258.length co18, .int .i64 t261] 31 (0, 0)) (by (with_reducible repeat (first | refine zA ?_ _ | refine zz ?_ | refine zw ?_ _)); refine zB ?_ NB263_327.out _; (with_reducible repeat (first | refine zA ?_ _ | refine zz ?_ | refine zw ?_ _)); refine zB ?_ NB263_327.out _; (with_reducible repeat (first | refine zA ?_ _ | refine zz ?_ | refine zw ?_ _)); refine zB ?_ NB263_327.out _; (with_reducible repeat (first | refine zA ?_ _ | refine zz ?_ | refine zw ?_ _)); refine zB ?_ NB263_327.out _; (with_reducible repeat (first | refine zA ?_ _ | refine zz ?_ | refine zw ?_ _)); refine zB ?_ NB263_327.out _; (with_reducible repeat (first | refine zA ?_ _ | refine zz ?_ | refine zw ?_ _)); refine zB ?_ NB263_327.out _; (with_reducible repeat (first | refine zA ?_ _ | refine zz ?_ | refine zw ?_ _)); refine zB ?_ NB263_327.out _; (with_reducible repeat (first | refine zA ?_ _ | refine zz ?_ | refine zw ?_ _)); exact BK263.out) hb); have n20_ := za (zx (g := gb287) (o := .cells #[.slice Ao23 t267.length co23, .slice Ao26 t270.length co26, .slice Ao27 t273.length co27, .slice Ao28 t276.length co28, .slice Ao29 t279.length co29, .slice Ao30 t282.length co30, .int .i64 t285] 31 (0, 0)) (by (with_reducible repeat (first | refine zA ?_ _ | refine zz ?_ | refine zw ?_ _)); refine zB ?_ NB287_327.out _; (with_reducible repeat (first | refine zA ?_ _ | refine zz ?_ | refine zw ?_ _)); refine zB ?_ NB287_327.out _; (with_reducible repeat (first | refine zA ?_ _ | refine zz ?_ | refine zw ?_ _)); refine zB ?_ NB287_327.out _; (with_reducible repeat (first | refine zA ?_ _ | refine zz ?_ | refine zw ?_ _)); refine zB ?_ NB287_327.out _; (with_reducible repeat (first | refine zA ?_ _ | refine zz ?_ | refine zw ?_ _)); refine zB ?_ NB287_327.out _; (with_reducible repeat (first | refine zA ?_ _ | refine zz ?_ | refine zw ?_ _)); refine zB ?_ NB287_327.out _; (with_reducible repeat (first | refine zA ?_ _ | refine zz ?_ | refine zw ?_ _)); refine zB ?_ NB287_327.out _; (with_reducible repeat (first | refine zA ?_ _ | refine zz ?_ | refine zw ?_ _)); exact BK287.out) hb); have n21_ := za (zx (g := gb327) (o := .cells #[.slice Ao78 t307.length co78, .slice Ao82 t310.length co82, .slice Ao83 t313.length co83, .slice Ao84 t316.length co84, .slice Ao85 t319.length co85, .slice Ao86 t322.length co86, .int .i64 t325] 31 (0, 0)) (by (with_reducible repeat (first | refine zA ?_ _ | refine zz ?_ | refine zw ?_ _)); refine blk_put (cs := #[.slice Ao78 t307.length co78, .slice Ao82 t310.length co82, .slice Ao83 t313.length co83, .slice Ao84 t316.length co84, .slice Ao85 t319.length co85, .slice Ao86 t322.length co86, .int .i64 0]) ?_ 6 _ rfl; (with_reducible repeat (first | refine zA ?_ _ | refine zz ?_ | refine zw ?_ _)); refine blk_put (cs := #[.slice Ao78 t307.length co78, .slice Ao82 t310.length co82, .slice Ao83 t313.length co83, .slice Ao84 t316.length co84, .slice Ao85 t319.length co85, .slice none 0 0, .int .i64 0]) ?_ 5 _ rfl; (with_reducible repeat (first | refine zA ?_ _ | refine zz ?_ | refine zw ?_ _)); refine blk_put (cs := #[.slice Ao78 t307.length co78, .slice Ao82 t310.length co82, .slice Ao83 t313.length co83, .slice Ao84 t316.length co84, .slice none 0 0, .slice none 0 0, .int .i64 0]) ?_ 4 _ rfl; (with_reducible repeat (first | refine zA ?_ _ | refine zz ?_ | refine zw ?_ _)); refine blk_put (cs := #[.slice Ao78 t307.length co78, .slice Ao82 t310.length co82, .slice Ao83 t313.length co83, .slice none 0 0, .slice none 0 0, .slice none 0 0, .int .i64 0]) ?_ 3 _ rfl; (with_reducible repeat (first | refine zA ?_ _ | refine zz ?_ | refine zw ?_ _)); refine blk_put (cs := #[.slice Ao78 t307.length co78, .slice Ao82 t310.length co82, .slice none 0 0, .slice none 0 0, .slice none 0 0, .slice none 0 0, .int .i64 0]) ?_ 2 _ rfl; (with_reducible repeat (first | refine zA ?_ _ | refine zz ?_ | refine zw ?_ _)); refine blk_put (cs := #[.slice Ao78 t307.length co78, .slice none 0 0, .slice none 0 0, .slice none 0 0, .slice none 0 0, .slice none 0 0, .int .i64 0]) ?_ 1 _ rfl; (with_reducible repeat (first | refine zA ?_ _ | refine zz ?_ | refine zw ?_ _)); refine blk_put (cs := #[.slice none 0 0, .slice none 0 0, .slice none 0 0, .slice none 0 0, .slice none 0 0, .slice none 0 0, .int .i64 0]) ?_ 0 _ rfl; (with_reducible repeat (first | refine zA ?_ _ | refine zz ?_ | refine zw ?_ _)); exact BK327.out) hb); have n22_ := za (below_step (by repeat (first | (with_reducible first | exact HB.out | apply zs | apply zD | apply zt | refine zu ?_ GE263.out | refine zu ?_ GE287.out | refine zu ?_ GE327.out) | exact HB.out)) hb); clear HO_264000; clear HO_264001; clear HO_264002; clear HO_264003; clear HO_264004; clear HO_264005; clear HO_288000; clear HO_288001; clear HO_288002; clear HO_288003; clear HO_288004; clear HO_288005; clear HO306; clear HO309; clear HO312; clear HO315; clear HO318; clear HO321; clear HO324; clear BK263; clear BK287; clear BK327; clear HB; have HO_264000 := n0_; have HO_264001 := n1_; have HO_264002 := n2_; have HO_264003 := n3_; have HO_264004 := n4_; have HO_264005 := n5_; have HO_288000 := n6_; have HO_288001 := n7_; have HO_288002 := n8_; have HO_288003 := n9_; have HO_288004 := n10_; have HO_288005 := n11_; have HO306 := n12_; have HO309 := n13_; have HO312 := n14_; have HO315 := n15_; have HO318 := n16_; have HO321 := n17_; have HO324 := n18_; have BK263 := n19_; have BK287 := n20_; have BK327 := n21_; have HB := n22_; clear n0_ n1_ n2_ n3_ n4_ n5_ n6_ n7_ n8_ n9_ n10_ n11_ n12_ n13_ n14_ n15_ n16_ n17_ n18_ n19_ n20_ n21_ n22_; (try clear hb); (try clear hb2); (try clear hk); (try clear hi)))
             go_meet
             case rel => exact ⟨_, (true), (by first | rfl | (simp; done) | (simp [*]; done)), H', ⟨by have := HJ6.out; have := HJ45.out; first | omega | exact Nat.le_refl _⟩, ⟨by (with_reducible repeat (first | apply ze | apply zj | apply zi)); exact zm HO_264000.out (fun _ hk => ⟨hk.1.1, hk.2⟩)⟩, ⟨by (with_reducible repeat (first | apply ze | apply zj | apply zi)); exact HO_264001.out⟩, ⟨by (with_reducible repeat (first | apply ze | apply zj | apply zi)); exact zm HO_264002.out (fun _ hk => ⟨hk.1.1.1.1.1, ⟨hk.1.1.1.1.2.1, ⟨hk.1.1.1.1.2.2.1, ⟨hk.1.1.1.1.2.2.2.1, ⟨hk.1.1.1.1.2.2.2.2.1, ⟨hk.1.1.1.1.2.2.2.2.2.1, ⟨hk.1.1.1.1.2.2.2.2.2.2, ⟨hk.1.1.1.2, ⟨hk.1.1.2, ⟨hk.1.2, hk.2⟩⟩⟩⟩⟩⟩⟩⟩⟩⟩)⟩, ⟨by (with_reducible repeat (first | apply ze | apply zj | apply zi)); exact zm HO_264003.out (fun _ hk => ⟨hk.1.1.1.1.1, ⟨hk.1.1.1.1.2.1, ⟨hk.1.1.1.1.2.2.1, ⟨hk.1.1.1.1.2.2.2.1, ⟨hk.1.1.1.1.2.2.2.2.1, ⟨hk.1.1.1.1.2.2.2.2.2.1, ⟨hk.1.1.1.1.2.2.2.2.2.2, ⟨hk.1.1.1.2, ⟨hk.1.1.2, ⟨hk.1.2, hk.2⟩⟩⟩⟩⟩⟩⟩⟩⟩⟩)⟩, ⟨by (with_reducible repeat (first | apply ze | apply zj | apply zi)); exact zm HO_264004.out (fun _ hk => ⟨hk.1.1.1.1.1, ⟨hk.1.1.1.1.2.1, ⟨hk.1.1.1.1.2.2.1, ⟨hk.1.1.1.1.2.2.2.1, ⟨hk.1.1.1.1.2.2.2.2.1, ⟨hk.1.1.1.1.2.2.2.2.2.1, ⟨hk.1.1.1.1.2.2.2.2.2.2, ⟨hk.1.1.1.2, ⟨hk.1.1.2, ⟨hk.1.2, hk.2⟩⟩⟩⟩⟩⟩⟩⟩⟩⟩)⟩, ⟨by (with_reducible repeat (first | apply ze | apply zj | apply zi)); exact zm HO_264005.out (fun _ hk => ⟨hk.1.1.1.1.1, ⟨hk.1.1.1.1.2.1, ⟨hk.1.1.1.1.2.2.1, ⟨hk.1.1.1.1.2.2.2.1, ⟨hk.1.1.1.1.2.2.2.2.1, ⟨hk.1.1.1.1.2.2.2.2.2.1, ⟨hk.1.1.1.1.2.2.2.2.2.2, ⟨hk.1.1.1.2, ⟨hk.1.1.2, ⟨hk.1.2, hk.2⟩⟩⟩⟩⟩⟩⟩⟩⟩⟩)⟩, ⟨by (with_reducible repeat (first | apply ze | apply zj | apply zi)); exact zm HO_288000.out (fun _ hk => ⟨hk.1.1, hk.2⟩)⟩, ⟨by (with_reducible repeat (first | apply ze | apply zj | apply zi)); exact HO_288001.out⟩, ⟨by (with_reducible repeat (first | apply ze | apply zj | apply zi)); exact zm HO_288002.out (fun _ hk => ⟨hk.1.1.1.1.1, ⟨hk.1.1.1.1.2.1, ⟨hk.1.1.1.1.2.2.1, ⟨hk.1.1.1.1.2.2.2.1, ⟨hk.1.1.1.1.2.2.2.2.1, ⟨hk.1.1.1.1.2.2.2.2.2.1, ⟨hk.1.1.1.1.2.2.2.2.2.2, ⟨hk.1.1.1.2, ⟨hk.1.1.2, ⟨hk.1.2, hk.2⟩⟩⟩⟩⟩⟩⟩⟩⟩⟩)⟩, ⟨by (with_reducible repeat (first | apply ze | apply zj | apply zi)); exact zm HO_288003.out (fun _ hk => ⟨hk.1.1.1.1.1, ⟨hk.1.1.1.1.2.1, ⟨hk.1.1.1.1.2.2.1, ⟨hk.1.1.1.1.2.2.2.1, ⟨hk.1.1.1.1.2.2.2.2.1, ⟨hk.1.1.1.1.2.2.2.2.2.1, ⟨hk.1.1.1.1.2.2.2.2.2.2, ⟨hk.1.1.1.2, ⟨hk.1.1.2, ⟨hk.1.2, hk.2⟩⟩⟩⟩⟩⟩⟩⟩⟩⟩)⟩, ⟨by (with_reducible repeat (first | apply ze | apply zj | apply zi)); exact zm HO_288004.out (fun _ hk => ⟨hk.1.1.1.1.1, ⟨hk.1.1.1.1.2.1, ⟨hk.1.1.1.1.2.2.1, ⟨hk.1.1.1.1.2.2.2.1, ⟨hk.1.1.1.1.2.2.2.2.1, ⟨hk.1.1.1.1.2.2.2.2.2.1, ⟨hk.1.1.1.1.2.2.2.2.2.2, ⟨hk.1.1.1.2, ⟨hk.1.1.2, ⟨hk.1.2, hk.2⟩⟩⟩⟩⟩⟩⟩⟩⟩⟩)⟩, ⟨by (with_reducible repeat (first | apply ze | apply zj | apply zi)); exact zm HO_288005.out (fun _ hk => ⟨hk.1.1.1.1.1, ⟨hk.1.1.1.1.2.1, ⟨hk.1.1.1.1.2.2.1, ⟨hk.1.1.1.1.2.2.2.1, ⟨hk.1.1.1.1.2.2.2.2.1, ⟨hk.1.1.1.1.2.2.2.2.2.1, ⟨hk.1.1.1.1.2.2.2.2.2.2, ⟨hk.1.1.1.2, ⟨hk.1.1.2, ⟨hk.1.2, hk.2⟩⟩⟩⟩⟩⟩⟩⟩⟩⟩)⟩, ⟨by (with_reducible repeat (first | apply ze | apply zj | apply zi)); exact zm HO309.out (fun _ hk => ⟨hk.1.1.2, hk.1.2⟩)⟩, ⟨by (with_reducible repeat (first | apply ze | apply zj | apply zi)); exact zm HO312.out (fun _ hk => ⟨hk.1.2, hk.2⟩)⟩, ⟨by (with_reducible repeat (first | apply ze | apply zj | apply zi)); exact zm HO315.out (fun _ hk => ⟨hk.1.1.1.1.1.1.1.2, ⟨hk.1.1.1.1.1.1.2, ⟨hk.1.1.1.1.1.2, ⟨hk.1.1.1.1.2, ⟨hk.1.1.1.2, ⟨hk.1.1.2, ⟨hk.1.2, ⟨hk.2, ⟨hk.1.1.1.1.1.1.1.1.1, ⟨hk.1.1.1.1.1.1.1.1.2.1, hk.1.1.1.1.1.1.1.1.2.2⟩⟩⟩⟩⟩⟩⟩⟩⟩⟩)⟩, ⟨by (with_reducible repeat (first | apply ze | apply zj | apply zi)); exact zm HO318.out (fun _ hk => ⟨hk.1.1.1.1.1.1.1.2, ⟨hk.1.1.1.1.1.1.2, ⟨hk.1.1.1.1.1.2, ⟨hk.1.1.1.1.2, ⟨hk.1.1.1.2, ⟨hk.1.1.2, ⟨hk.1.2, ⟨hk.2, ⟨hk.1.1.1.1.1.1.1.1.1, ⟨hk.1.1.1.1.1.1.1.1.2.1, hk.1.1.1.1.1.1.1.1.2.2⟩⟩⟩⟩⟩⟩⟩⟩⟩⟩)⟩, ⟨by (with_reducible repeat (first | apply ze | apply zj | apply zi)); exact zm HO321.out (fun _ hk => ⟨hk.1.1.1.1.1.1.1.2, ⟨hk.1.1.1.1.1.1.2, ⟨hk.1.1.1.1.1.2, ⟨hk.1.1.1.1.2, ⟨hk.1.1.1.2, ⟨hk.1.1.2, ⟨hk.1.2, ⟨hk.2, ⟨hk.1.1.1.1.1.1.1.1.1, ⟨hk.1.1.1.1.1.1.1.1.2.1, hk.1.1.1.1.1.1.1.1.2.2⟩⟩⟩⟩⟩⟩⟩⟩⟩⟩)⟩, ⟨by (with_reducible repeat (first | apply ze | apply zj | apply zi)); exact zm HO324.out (fun _ hk => ⟨hk.1.1.1.1.1.1.1.2, ⟨hk.1.1.1.1.1.1.2, ⟨hk.1.1.1.1.1.2, ⟨hk.1.1.1.1.2, ⟨hk.1.1.1.2, ⟨hk.1.1.2, ⟨hk.1.2, ⟨hk.2, ⟨hk.1.1.1.1.1.1.1.1.1, ⟨hk.1.1.1.1.1.1.1.1.2.1, hk.1.1.1.1.1.1.1.1.2.2⟩⟩⟩⟩⟩⟩⟩⟩⟩⟩)⟩, ⟨by (with_reducible repeat (first | refine zA ?_ _ | refine zz ?_ | refine zw ?_ _)); exact BK263.out⟩, ⟨by (with_reducible repeat (first | refine zA ?_ _ | refine zz ?_ | refine zw ?_ _)); exact BK287.out⟩, ⟨by (with_reducible repeat (first | refine zA ?_ _ | refine zz ?_ | refine zw ?_ _)); exact BK327.out⟩, ⟨by repeat (first | (with_reducible first | exact HB.out | apply zs | apply zD | apply zt | refine zu ?_ GE263.out | refine zu ?_ GE287.out | refine zu ?_ GE327.out) | exact HB.out)⟩⟩
           case rest =>
            clear HC68
            try clear c1
            try clear c2
            try clear c2b0
            try clear c2b1
            try clear p2
            try clear c3
            try clear c4
            try clear c5
            try clear c6
            try clear c7
            try clear c8
            try clear c9
            try clear c15
            try clear c16
            try clear c17
            try clear c18
            try clear c19
            try clear c20
            try clear c21
            try clear c22
            try clear c24
            try clear c32
            try clear c33
            try clear c37
            try clear c41
            try clear c44
            try clear c50
            try clear c50b0
            try clear c52
            try clear c53
            try clear c57
            try clear c61
            try clear c64
            try clear c64b0
            try clear c65
            try clear c65b0
            try clear c65b1
            try clear c69
            try clear c79
            try clear c80
            try clear c88
            try clear c89
            try clear c90
            try clear c92
            try clear c95
            try clear c96
            try clear c98
            try clear hcz13_0
            try clear hcz13_1
            try clear hcz13_2
            try clear hcz13_3
            try clear hcz13_4
            try clear hcz13_5
            try clear hcz13_6
            try clear hcz25_0
            try clear hcz25_1
            try clear hcz25_2
            try clear hcz25_3
            try clear hcz25_4
            try clear hcz25_5
            try clear hcz25_6
            try clear hcz34_0
            try clear hcz34_1
            try clear hcz34_2
            try clear hcz34_3
            try clear hcz34_4
            try clear hcz34_5
            try clear hcz34_6
            try clear hcz35_0
            try clear hcz35_1
            try clear hcz35_2
            try clear hcz35_3
            try clear hcz35_4
            try clear hcz35_5
            try clear hcz35_6
            try clear hcz38_0
            try clear hcz38_1
            try clear hcz38_2
            try clear hcz38_3
            try clear hcz38_4
            try clear hcz38_5
            try clear hcz38_6
            try clear hcz39_0
            try clear hcz39_1
            try clear hcz39_2
            try clear hcz39_3
            try clear hcz39_4
            try clear hcz39_5
            try clear hcz39_6
            try clear hcz54_0
            try clear hcz54_1
            try clear hcz54_2
            try clear hcz54_3
            try clear hcz54_4
            try clear hcz54_5
            try clear hcz54_6
            try clear hcz55_0
            try clear hcz55_1
            try clear hcz55_2
            try clear hcz55_3
            try clear hcz55_4
            try clear hcz55_5
            try clear hcz55_6
            try clear hcz58_0
            try clear hcz58_1
            try clear hcz58_2
            try clear hcz58_3
            try clear hcz58_4
            try clear hcz58_5
            try clear hcz58_6
            try clear hcz59_0
            try clear hcz59_1
            try clear hcz59_2
            try clear hcz59_3
            try clear hcz59_4
            try clear hcz59_5
            try clear hcz59_6
            try clear hcz70_0
            try clear hcz70_1
            try clear hcz70_2
            try clear hcz70_3
            try clear hcz70_4
            try clear hcz70_5
            try clear hcz70_6
            try clear hcz72_0
            try clear hcz72_1
            try clear hcz72_2
            try clear hcz72_3
            try clear hcz72_4
            try clear hcz72_5
            try clear hcz72_6
            try clear hcz81_0
            try clear hcz81_1
            try clear hcz81_2
            try clear hcz81_3
            try clear hcz81_4
            try clear hcz81_5
            try clear hcz81_6
            try clear hcz91_0
            try clear hcz91_1
            try clear hcz91_2
            try clear hcz91_3
            try clear hcz91_4
            try clear hcz91_5
            try clear hcz91_6
            try clear hcz93_0
            try clear hcz93_1
            try clear hcz93_2
            try clear hcz93_3
            try clear hcz93_4
            try clear hcz93_5
            try clear hcz93_6
            try clear hcz97_0
            try clear hcz97_1
            try clear hcz97_2
            try clear hcz97_3
            try clear hcz97_4
            try clear hcz97_5
            try clear hcz97_6
            try clear hcz99_0
            try clear hcz99_1
            try clear hcz99_2
            try clear hcz99_3
            try clear hcz99_4
            try clear hcz99_5
            try clear hcz99_6
            try clear hfz13_0
            try clear hfz13_1
            try clear hfz13_2
            try clear hfz13_3
            try clear hfz13_4
            try clear hfz13_5
            try clear hfz13_6
            try clear hfz25_0
            try clear hfz25_1
            try clear hfz25_2
            try clear hfz25_3
            try clear hfz25_4
            try clear hfz25_5
            try clear hfz25_6
            try clear hfz34_0
            try clear hfz34_1
            try clear hfz34_2
            try clear hfz34_3
            try clear hfz34_4
            try clear hfz34_5
            try clear hfz34_6
            try clear hfz35_0
            try clear hfz35_1
            try clear hfz35_2
            try clear hfz35_3
            try clear hfz35_4
            try clear hfz35_5
            try clear hfz35_6
            try clear hfz38_0
            try clear hfz38_1
            try clear hfz38_2
            try clear hfz38_3
            try clear hfz38_4
            try clear hfz38_5
            try clear hfz38_6
            try clear hfz39_0
            try clear hfz39_1
            try clear hfz39_2
            try clear hfz39_3
            try clear hfz39_4
            try clear hfz39_5
            try clear hfz39_6
            try clear hfz54_0
            try clear hfz54_1
            try clear hfz54_2
            try clear hfz54_3
            try clear hfz54_4
            try clear hfz54_5
            try clear hfz54_6
            try clear hfz55_0
            try clear hfz55_1
            try clear hfz55_2
            try clear hfz55_3
            try clear hfz55_4
            try clear hfz55_5
            try clear hfz55_6
            try clear hfz58_0
            try clear hfz58_1
            try clear hfz58_2
            try clear hfz58_3
            try clear hfz58_4
            try clear hfz58_5
            try clear hfz58_6
            try clear hfz59_0
            try clear hfz59_1
            try clear hfz59_2
            try clear hfz59_3
            try clear hfz59_4
            try clear hfz59_5
            try clear hfz59_6
            try clear hfz70_0
            try clear hfz70_1
            try clear hfz70_2
            try clear hfz70_3
            try clear hfz70_4
            try clear hfz70_5
            try clear hfz70_6
            try clear hfz72_0
            try clear hfz72_1
            try clear hfz72_2
            try clear hfz72_3
            try clear hfz72_4
            try clear hfz72_5
            try clear hfz72_6
            try clear hfz81_0
            try clear hfz81_1
            try clear hfz81_2
            try clear hfz81_3
            try clear hfz81_4
            try clear hfz81_5
            try clear hfz81_6
            try clear hfz91_0
            try clear hfz91_1
            try clear hfz91_2
            try clear hfz91_3
            try clear hfz91_4
            try clear hfz91_5
            try clear hfz91_6
            try clear hfz93_0
            try clear hfz93_1
            try clear hfz93_2
            try clear hfz93_3
            try clear hfz93_4
            try clear hfz93_5
            try clear hfz93_6
            try clear hfz97_0
            try clear hfz97_1
            try clear hfz97_2
            try clear hfz97_3
            try clear hfz97_4
            try clear hfz97_5
            try clear hfz97_6
            try clear hfz99_0
            try clear hfz99_1
            try clear hfz99_2
            try clear hfz99_3
            try clear hfz99_4
            try clear hfz99_5
            try clear hfz99_6
            try clear p2
            obtain ⟨kq, x84_67, rfl, HA, HJ67, HO_264000, HO_264001, HO_264002, HO_264003, HO_264004, HO_264005, HO_288000, HO_288001, HO_288002, HO_288003, HO_288004, HO_288005, HO_328000, HO_328001, HO_328002, HO_328003, HO_328004, HO_328005, BK263, BK287, BK327, HB⟩ := hcut
            have hl288000_67 := (zo HO_288000.out).1
            rw [hl288000_67] at HO_288000
            (try simp only [hl288000_67])
            (try simp only [hl288000_67] at BK263)
            (try simp only [hl288000_67] at BK287)
            (try simp only [hl288000_67] at BK327)
            (try simp only [hl288000_67] at HO_264000)
            (try simp only [hl288000_67] at HO_264001)
            (try simp only [hl288000_67] at HO_264002)
            (try simp only [hl288000_67] at HO_264003)
            (try simp only [hl288000_67] at HO_264004)
            (try simp only [hl288000_67] at HO_264005)
            (try simp only [hl288000_67] at HO_288001)
            (try simp only [hl288000_67] at HO_288002)
            (try simp only [hl288000_67] at HO_288003)
            (try simp only [hl288000_67] at HO_288004)
            (try simp only [hl288000_67] at HO_288005)
            (try simp only [hl288000_67] at HO_328000)
            (try simp only [hl288000_67] at HO_328001)
            (try simp only [hl288000_67] at HO_328002)
            (try simp only [hl288000_67] at HO_328003)
            (try simp only [hl288000_67] at HO_328004)
            (try simp only [hl288000_67] at HO_328005)
            have hl288001_67 := (zo HO_288001.out).1
            rw [hl288001_67] at HO_288001
            (try simp only [hl288001_67])
            (try simp only [hl288001_67] at BK263)
            (try simp only [hl288001_67] at BK287)
            (try simp only [hl288001_67] at BK327)
            (try simp only [hl288001_67] at HO_264000)
            (try simp only [hl288001_67] at HO_264001)
            (try simp only [hl288001_67] at HO_264002)
            (try simp only [hl288001_67] at HO_264003)
            (try simp only [hl288001_67] at HO_264004)
            (try simp only [hl288001_67] at HO_264005)
            (try simp only [hl288001_67] at HO_288000)
            (try simp only [hl288001_67] at HO_288002)
            (try simp only [hl288001_67] at HO_288003)
            (try simp only [hl288001_67] at HO_288004)
            (try simp only [hl288001_67] at HO_288005)
            (try simp only [hl288001_67] at HO_328000)
            (try simp only [hl288001_67] at HO_328001)
            (try simp only [hl288001_67] at HO_328002)
            (try simp only [hl288001_67] at HO_328003)
            (try simp only [hl288001_67] at HO_328004)
            (try simp only [hl288001_67] at HO_328005)
            have hl288002_67 := (zo HO_288002.out).1
            rw [hl288002_67] at HO_288002
            (try simp only [hl288002_67])
            (try simp only [hl288002_67] at BK263)
            (try simp only [hl288002_67] at BK287)
            (try simp only [hl288002_67] at BK327)
            (try simp only [hl288002_67] at HO_264000)
            (try simp only [hl288002_67] at HO_264001)
            (try simp only [hl288002_67] at HO_264002)
            (try simp only [hl288002_67] at HO_264003)
            (try simp only [hl288002_67] at HO_264004)
            (try simp only [hl288002_67] at HO_264005)
            (try simp only [hl288002_67] at HO_288000)
            (try simp only [hl288002_67] at HO_288001)
            (try simp only [hl288002_67] at HO_288003)
            (try simp only [hl288002_67] at HO_288004)
            (try simp only [hl288002_67] at HO_288005)
            (try simp only [hl288002_67] at HO_328000)
            (try simp only [hl288002_67] at HO_328001)
            (try simp only [hl288002_67] at HO_328002)
            (try simp only [hl288002_67] at HO_328003)
            (try simp only [hl288002_67] at HO_328004)
            (try simp only [hl288002_67] at HO_328005)
            have hl288003_67 := (zo HO_288003.out).1
            rw [hl288003_67] at HO_288003
            (try simp only [hl288003_67])
            (try simp only [hl288003_67] at BK263)
            (try simp only [hl288003_67] at BK287)
            (try simp only [hl288003_67] at BK327)
            (try simp only [hl288003_67] at HO_264000)
            (try simp only [hl288003_67] at HO_264001)
            (try simp only [hl288003_67] at HO_264002)
            (try simp only [hl288003_67] at HO_264003)
            (try simp only [hl288003_67] at HO_264004)
            (try simp only [hl288003_67] at HO_264005)
            (try simp only [hl288003_67] at HO_288000)
            (try simp only [hl288003_67] at HO_288001)
            (try simp only [hl288003_67] at HO_288002)
            (try simp only [hl288003_67] at HO_288004)
            (try simp only [hl288003_67] at HO_288005)
            (try simp only [hl288003_67] at HO_328000)
            (try simp only [hl288003_67] at HO_328001)
            (try simp only [hl288003_67] at HO_328002)
            (try simp only [hl288003_67] at HO_328003)
            (try simp only [hl288003_67] at HO_328004)
            (try simp only [hl288003_67] at HO_328005)
            have hl288004_67 := (zo HO_288004.out).1
            rw [hl288004_67] at HO_288004
            (try simp only [hl288004_67])
            (try simp only [hl288004_67] at BK263)
            (try simp only [hl288004_67] at BK287)
            (try simp only [hl288004_67] at BK327)
            (try simp only [hl288004_67] at HO_264000)
            (try simp only [hl288004_67] at HO_264001)
            (try simp only [hl288004_67] at HO_264002)
            (try simp only [hl288004_67] at HO_264003)
            (try simp only [hl288004_67] at HO_264004)
            (try simp only [hl288004_67] at HO_264005)
            (try simp only [hl288004_67] at HO_288000)
            (try simp only [hl288004_67] at HO_288001)
            (try simp only [hl288004_67] at HO_288002)
            (try simp only [hl288004_67] at HO_288003)
            (try simp only [hl288004_67] at HO_288005)
            (try simp only [hl288004_67] at HO_328000)
            (try simp only [hl288004_67] at HO_328001)
            (try simp only [hl288004_67] at HO_328002)
            (try simp only [hl288004_67] at HO_328003)
            (try simp only [hl288004_67] at HO_328004)
            (try simp only [hl288004_67] at HO_328005)
            have hl288005_67 := (zo HO_288005.out).1
            rw [hl288005_67] at HO_288005
            (try simp only [hl288005_67])
            (try simp only [hl288005_67] at BK263)
            (try simp only [hl288005_67] at BK287)
            (try simp only [hl288005_67] at BK327)
            (try simp only [hl288005_67] at HO_264000)
            (try simp only [hl288005_67] at HO_264001)
            (try simp only [hl288005_67] at HO_264002)
            (try simp only [hl288005_67] at HO_264003)
            (try simp only [hl288005_67] at HO_264004)
            (try simp only [hl288005_67] at HO_264005)
            (try simp only [hl288005_67] at HO_288000)
            (try simp only [hl288005_67] at HO_288001)
            (try simp only [hl288005_67] at HO_288002)
            (try simp only [hl288005_67] at HO_288003)
            (try simp only [hl288005_67] at HO_288004)
            (try simp only [hl288005_67] at HO_328000)
            (try simp only [hl288005_67] at HO_328001)
            (try simp only [hl288005_67] at HO_328002)
            (try simp only [hl288005_67] at HO_328003)
            (try simp only [hl288005_67] at HO_328004)
            (try simp only [hl288005_67] at HO_328005)
            cases kq with
            | zero => exact absurd HA.out (by simp [laws_FnExactNewData.j2])
            | succ kj67 =>
             have H := HA.out
             clear HA
             simp only [laws_FnExactNewData.j2] at H
             by_cases c101 : x84_67 = true
             ·
              subst c101
              have H1 : (some false) = some r := by rw [if_pos rfl] at H; exact H
              clear H
              have H := H1
              clear H1
              exact absurd ((Option.some.inj H).trans hlaw_.out) (by decide)
             ·
              replace c101 := Bool.eq_false_iff.mpr c101
              subst c101
              have H1 : ((laws_heldData.f kj67 t297 t298 t299 t300 t301 t302 t285 1).bind fun t329 => (if t329 < 0 then (some false) else (if t329 = t296 then (some true) else (some false)))) = some r := by rw [if_neg (show ¬ (false = true) by decide)] at H; exact H
              clear H
              have H := H1
              clear H1
              replace H := Option.bind_eq_some_iff.mp H
              obtain ⟨t329, A1020, H⟩ := H
              replace H : (if t329 < 0 then (some false) else (if t329 = t296 then (some true) else (some false))) = some r := H
              have A102 := za A1020
              clear A1020
              by_cases c103 : t329 < 0
              ·
               rw [if_pos c103] at H
               have c103b0 : decide (t329 < 0) = true := decide_eq_true c103
               clear c103
               exact absurd ((Option.some.inj H).trans hlaw_.out) (by decide)
              ·
               rw [if_neg c103] at H
               have c103b0 : decide (t329 < 0) = false := decide_eq_false c103
               clear c103
               by_cases c104 : t329 = t296
               ·
                rw [if_pos c104] at H
                have c104b0 : (t329 == t296) = true := beq_iff_eq.mpr c104
                have c104b1 : (t329 != t296) = false := bne_eq_false_iff_eq.mpr c104
                clear c104
                obtain rfl := Option.some.inj H
                have hnb105 := NB287_263.out
                have hnc105 := NB263_287.out
                have hnb106 := NB287_327.out
                have hnc106 := NB327_287.out
                have hcz107_0 : wc.cell? ⟨gb287, 0, none⟩ = some (.slice Ao23 t297.length co23) := (zy BK287.out 0).trans rfl
                have hcz107_1 : wc.cell? ⟨gb287, 1, none⟩ = some (.slice Ao26 t298.length co26) := (zy BK287.out 1).trans rfl
                have hcz107_2 : wc.cell? ⟨gb287, 2, none⟩ = some (.slice Ao27 t299.length co27) := (zy BK287.out 2).trans rfl
                have hcz107_3 : wc.cell? ⟨gb287, 3, none⟩ = some (.slice Ao28 t300.length co28) := (zy BK287.out 3).trans rfl
                have hcz107_4 : wc.cell? ⟨gb287, 4, none⟩ = some (.slice Ao29 t301.length co29) := (zy BK287.out 4).trans rfl
                have hcz107_5 : wc.cell? ⟨gb287, 5, none⟩ = some (.slice Ao30 t302.length co30) := (zy BK287.out 5).trans rfl
                have hcz107_6 : wc.cell? ⟨gb287, 6, none⟩ = some (.int .i64 t285) := (zy BK287.out 6).trans rfl
                have hfz107_0 := zC BK287.out 0
                have hfz107_1 := zC BK287.out 1
                have hfz107_2 := zC BK287.out 2
                have hfz107_3 := zC BK287.out 3
                have hfz107_4 := zC BK287.out 4
                have hfz107_5 := zC BK287.out 5
                have hfz107_6 := zC BK287.out 6
                go_wp2_with (first | ((with_reducible refine gate_callee (f := 22) rfl ?_); refine goesL_ (some 87) rfl rfl Try.func22 (by kernel_rfl) rfl #[.agg #[.slice Ao23 t297.length co23, .slice Ao26 t298.length co26, .slice Ao27 t299.length co27, .slice Ao28 t300.length co28, .slice Ao29 t301.length co29, .slice Ao30 t302.length co30, .int .i64 t285], .int .i64 1] rfl (by (try simp only [List.map_toArray, List.map_cons, List.map_nil]); first | done | rfl | (simp only [List.length_drop, List.length_take]; rfl)) ?_; (with_reducible refine (laws_heldData.calls kj67 _ _ t297 _ _ t298 _ _ t299 _ _ t300 _ _ t301 _ _ t302 t285 1 t329 _ ?side1 ?side2 ?side3 ?side4 ?side5 ?side6 ?side7 ?side8 ?side9 ?side10 ?side11 ?side12 A102.out).mono ?_); (case side1 => repeat (first | exact (zo HO_288000.out).2.2 | (with_reducible refine zb ?_ _) | (with_reducible refine zd ?_ _) | (with_reducible refine zc ?_))); (case side2 => exact (zo HO_288000.out).2.1); (case side3 => repeat (first | exact (zo HO_288001.out).2.2 | (with_reducible refine zb ?_ _) | (with_reducible refine zd ?_ _) | (with_reducible refine zc ?_))); (case side4 => exact (zo HO_288001.out).2.1); (case side5 => repeat (first | exact (zo HO_288002.out).2.2 | (with_reducible refine zb ?_ _) | (with_reducible refine zd ?_ _) | (with_reducible refine zc ?_))); (case side6 => exact (zo HO_288002.out).2.1); (case side7 => repeat (first | exact (zo HO_288003.out).2.2 | (with_reducible refine zb ?_ _) | (with_reducible refine zd ?_ _) | (with_reducible refine zc ?_))); (case side8 => exact (zo HO_288003.out).2.1); (case side9 => repeat (first | exact (zo HO_288004.out).2.2 | (with_reducible refine zb ?_ _) | (with_reducible refine zd ?_ _) | (with_reducible refine zc ?_))); (case side10 => exact (zo HO_288004.out).2.1); (case side11 => repeat (first | exact (zo HO_288005.out).2.2 | (with_reducible refine zb ?_ _) | (with_reducible refine zd ?_ _) | (with_reducible refine zc ?_))); (case side12 => exact (zo HO_288005.out).2.1); rintro e w108 ⟨rfl, hb⟩; refine ⟨_, rfl, ?_⟩; have n0_ := za (zh (by (with_reducible repeat (first | apply ze | apply zj | apply zi)); exact HO_264000.out) hb); have n1_ := za (zh (by (with_reducible repeat (first | apply ze | apply zj | apply zi)); exact HO_264001.out) hb); have n2_ := za (zh (by (with_reducible repeat (first | apply ze | apply zj | apply zi)); exact HO_264002.out) hb); have n3_ := za (zh (by (with_reducible repeat (first | apply ze | apply zj | apply zi)); exact HO_264003.out) hb); have n4_ := za (zh (by (with_reducible repeat (first | apply ze | apply zj | apply zi)); exact HO_264004.out) hb); have n5_ := za (zh (by (with_reducible repeat (first | apply ze | apply zj | apply zi)); exact HO_264005.out) hb); have n6_ := za (zh (by (with_reducible repeat (first | apply ze | apply zj | apply zi)); exact HO_288000.out) hb); have n7_ := za (zh (by (with_reducible repeat (first | apply ze | apply zj | apply zi)); exact HO_288001.out) hb); have n8_ := za (zh (by (with_reducible repeat (first | apply ze | apply zj | apply zi)); exact HO_288002.out) hb); have n9_ := za (zh (by (with_reducible repeat (first | apply ze | apply zj | apply zi)); exact HO_288003.out) hb); have n10_ := za (zh (by (with_reducible repeat (first | apply ze | apply zj | apply zi)); exact HO_288004.out) hb); have n11_ := za (zh (by (with_reducible repeat (first | apply ze | apply zj | apply zi)); exact HO_288005.out) hb); have n12_ := za (zh (by (with_reducible repeat (first | apply ze | apply zj | apply zi)); exact HO_328000.out) hb); have n13_ := za (zh (by (with_reducible repeat (first | apply ze | apply zj | apply zi)); exact HO_328001.out) hb); have n14_ := za (zh (by (with_reducible repeat (first | apply ze | apply zj | apply zi)); exact HO_328002.out) hb); have n15_ := za (zh (by (with_reducible repeat (first | apply ze | apply zj | apply zi)); exact HO_328003.out) hb); have n16_ := za (zh (by (with_reducible repeat (first | apply ze | apply zj | apply zi)); exact HO_328004.out) hb); have n17_ := za (zh (by (with_reducible repeat (first | apply ze | apply zj | apply zi)); exact HO_328005.out) hb); have n18_ := za (zx (g := gb263) (o := .cells #[.slice Ao12 t243.length co12, .slice Ao14 t246.length co14, .slice Ao15 t249.length co15, .slice Ao16 t252.length co16, .slice Ao17 t255.length co17, .slice Ao18 t258.length co18, .int .i64 t261] 31 (0, 0)) (by (with_reducible repeat (first | refine zA ?_ _ | refine zz ?_ | refine zw ?_ _)); exact BK263.out) hb); have n19_ := za (zx (g := gb287) (o := .cells #[.slice Ao23 t297.length co23, .slice Ao26 t298.length co26, .slice Ao27 t299.length co27, .slice Ao28 t300.length co28, .slice Ao29 t301.length co29, .slice Ao30 t302.length co30, .int .i64 t285] 31 (0, 0)) (by (with_reducible repeat (first | refine zA ?_ _ | refine zz ?_ | refine zw ?_ _)); exact BK287.out) hb); have n20_ := za (zx (g := gb327) (o := .cells #[.slice Ao78 t307.length co78, .slice Ao82 t310.length co82, .slice Ao83 t313.length co83, .slice Ao84 t316.length co84, .slice Ao85 t319.length co85, .slice Ao86 t322.length co86, .int .i64 t325] 31 (0, 0)) (by (with_reducible repeat (first | refine zA ?_ _ | refine zz ?_ | refine zw ?_ _)); exact BK327.out) hb); have n21_ := za (below_step (by repeat (first | (with_reducible first | exact HB.out | apply zs | apply zD | apply zt | refine zu ?_ GE263.out | refine zu ?_ GE287.out | refine zu ?_ GE327.out) | exact HB.out)) hb); clear HO_264000; clear HO_264001; clear HO_264002; clear HO_264003; clear HO_264004; clear HO_264005; clear HO_288000; clear HO_288001; clear HO_288002; clear HO_288003; clear HO_288004; clear HO_288005; clear HO_328000; clear HO_328001; clear HO_328002; clear HO_328003; clear HO_328004; clear HO_328005; clear BK263; clear BK287; clear BK327; clear HB; have HO_264000 := n0_; have HO_264001 := n1_; have HO_264002 := n2_; have HO_264003 := n3_; have HO_264004 := n4_; have HO_264005 := n5_; have HO_288000 := n6_; have HO_288001 := n7_; have HO_288002 := n8_; have HO_288003 := n9_; have HO_288004 := n10_; have HO_288005 := n11_; have HO_328000 := n12_; have HO_328001 := n13_; have HO_328002 := n14_; have HO_328003 := n15_; have HO_328004 := n16_; have HO_328005 := n17_; have BK263 := n18_; have BK287 := n19_; have BK327 := n20_; have HB := n21_; clear n0_ n1_ n2_ n3_ n4_ n5_ n6_ n7_ n8_ n9_ n10_ n11_ n12_ n13_ n14_ n15_ n16_ n17_ n18_ n19_ n20_ n21_; (try clear hb); (try clear hb2); (try clear hk); (try clear hi)))
                go_ret
                exact ⟨by first | rfl | (simp [errW_none, errW_some] <;> rfl) | (simp [*, errW_none, errW_some] <;> rfl), by repeat (first | (with_reducible first | exact HB.out | apply zs | apply zD | apply zt | refine zu ?_ GE263.out | refine zu ?_ GE287.out | refine zu ?_ GE327.out) | exact HB.out)⟩
               ·
                rw [if_neg c104] at H
                have c104b0 : (t329 == t296) = false := beq_eq_false_iff_ne.mpr c104
                have c104b1 : (t329 != t296) = true := bne_iff_ne.mpr c104
                exact absurd ((Option.some.inj H).trans hlaw_.out) (by decide)
          ·
           rw [if_neg c65] at H
           have c65b0 : (t303 == t296) = false := beq_eq_false_iff_ne.mpr c65
           have c65b1 : (t303 != t296) = true := bne_iff_ne.mpr c65
           exact absurd ((Option.some.inj H).trans hlaw_.out) (by decide)
     ·
      replace c44 := Bool.eq_false_iff.mpr c44
      subst c44
      have H1 : (some false) = some r := by rw [if_neg (show ¬ (false = true) by decide)] at H; exact H
      clear H
      have H := H1
      clear H1
      exact absurd ((Option.some.inj H).trans hlaw_.out) (by decide)

/-- THE ONE PURE STATEMENT of laws_FnExactNewData: yours. -/
def laws_FnExactNewData.Pure : Prop := ∀ (l0 : List Int), l0.length ≤ maxLen → l0.length * 8 ≤ 140737488351232 → (∀ x ∈ l0, (Lit.int .i64 x).wf = true) → ∃ k, laws_FnExactNewData.f k l0 = some true
theorem laws_FnExactNewData.walk (P : laws_FnExactNewData.Pure) (a0 : Option Addr) (len0 cap0 : Nat) (z0 : List Int) (w : World) (w0 : (a0 = none ∧ len0 = 0 ∧ cap0 = 0 ∧ z0 = []) ∨ ∃ x, a0 = some x ∧ len0 ≤ cap0 ∧ cap0 ≤ maxLen ∧ z0.length = cap0 ∧ (∀ i, i < z0.length → w.cell? (x.add i) = some (.int .i64 (z0.getD i 0))) ∧ ∀ n ∈ z0, (Lit.int .i64 n).wf = true) (y0 : len0 * 8 ≤ 140737488351232) :
  Calls Try.prog 4 #[.slice a0 len0 cap0] w fun e w' => e = .returned (.bool true) ∧ Below w.heap.size w w' := by
 obtain ⟨l0, rfl, hr0, hm0, hw0, hc0⟩ := ReadsInt.ofRowC w0
 obtain ⟨k, h⟩ := P l0 hm0 y0 hw0
 refine (laws_FnExactNewData.calls k _ _ l0 true w (Kd.C_of_reads (d := (0 : Int)) (h1 := fun _ => rfl) hr0) hc0 h rfl).mono ?_
 rintro e w' ⟨rfl, hd⟩
 exact ⟨rfl, hd⟩

end Go.Proofs.Ytjgdfbcjlebniaa.MFnExactNewData
