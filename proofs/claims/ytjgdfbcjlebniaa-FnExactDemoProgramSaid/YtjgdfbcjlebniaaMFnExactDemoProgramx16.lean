import Derived.Test.YtjgdfbcjlebniaaMFnExactDemoProgramx1
import Derived.Test.YtjgdfbcjlebniaaMFnExactDemoProgramx13
import Derived.Test.YtjgdfbcjlebniaaMFnExactDemoProgramx14
import Derived.Test.YtjgdfbcjlebniaaMFnExactDemoProgramx15
-- Text written by a program of this session (wip/tools: the kit's printer with additions of ours).
namespace Go.Proofs.Ytjgdfbcjlebniaa.MFnExactDemoProgram
open Go.RowKit Go.Proofs.YtjgdfbcjlebniaaW.PrintWords Go.Proofs.YtjgdfbcjlebniaaW.PrintLast Go.Proofs.YtjgdfbcjlebniaaW.PrintMore
attribute [local go_sem] max2_int min2_int max_two min_two max_three min_three max_four min_four   -- for this text's walks alone
set_option linter.unusedVariables false
set_option linter.unusedSimpArgs false

def dm0 : List Int := ((laws_markIntS.f 64 dk 1).map (·.2)).getD []
def dm1 : List S93 := ((markRS.g 64 drt 3).map (·.2)).getD []
def dm2 : List S95 := ((laws_markTaskS.f 64 dt 41).map (·.2)).getD []
def dm3 : List Bool := ((laws_markBoolS.f 64 ds 53).map (·.2)).getD []
theorem dm0_is : laws_markIntS.f 64 dk 1 = some (3, dm0) := by kernel_rfl
theorem dm1_is : markRS.g 64 drt 3 = some (41, dm1) := by kernel_rfl
theorem dm2_is : laws_markTaskS.f 64 dt 41 = some (53, dm2) := by kernel_rfl
theorem dm3_is : laws_markBoolS.f 64 ds 53 = some (61, dm3) := by kernel_rfl
theorem dm0_len : dm0.length = 2 := by kernel_rfl
theorem dm1_len : dm1.length = 3 := by kernel_rfl
theorem dm2_len : dm2.length = 2 := by kernel_rfl
theorem dm3_len : dm3.length = 8 := by kernel_rfl
theorem dm_held : laws_heldProgram.f 64 dm0 dm1 dm2 dm3 1 = some 61 := by kernel_rfl
theorem dm_eq : laws_eqProgram.f 64 dk drt dt ds dk drt dt ds = some true := by kernel_rfl
theorem dm_spec : spec_DemoProgram.f = some (dk, drt, dt, ds) := by kernel_rfl
theorem dk_len : dk.length = 2 := rfl
theorem drt_len : drt.length = 3 := rfl
theorem dt_len : dt.length = 2 := rfl
theorem ds_len : ds.length = 8 := rfl
/-- A row of programs' four parts, as it is read. -/
def ReadsP (W : World) (B0 B1 B2 B3 : Option Addr) (l0 : List Int) (l1 : List S93) (l2 : List S95) (l3 : List Bool) : Prop :=
  Kd.C (Kd.int .i64) W B0 l0.length l0 ∧ Kd.C k93 W B1 l1.length l1 ∧ Kd.C k95 W B2 l2.length l2 ∧ Kd.C Kd.bool W B3 l3.length l3
theorem ReadsP.below {W W1 : World} {B0 B1 B2 B3 : Option Addr} {l0 : List Int} {l1 : List S93} {l2 : List S95} {l3 : List Bool} (h : ReadsP W B0 B1 B2 B3 l0 l1 l2 l3) (hb : Below W.heap.size W W1) : ReadsP W1 B0 B1 B2 B3 l0 l1 l2 l3 :=
  ⟨Kd.C_below h.1 hb, Kd.C_below h.2.1 hb, Kd.C_below h.2.2.1 hb, Kd.C_below h.2.2.2 hb⟩
def csS (B0 B1 B2 B3 : Option Addr) (c0 c1 c2 c3 : Nat) : Array Value := #[.slice B0 2 c0, .slice B1 3 c1, .slice B2 2 c2, .slice B3 8 c3]
def pA (g : Nat) : Option Addr := some ⟨g, 0, none⟩
theorem specD.calls (w : World) : Calls Try.prog 25 #[] w fun e w' => ∃ (B0 B1 B2 B3 : Option Addr) (c0 c1 c2 c3 : Nat), e = .returned (.agg (csS B0 B1 B2 B3 c0 c1 c2 c3)) ∧ (2 ≤ c0 ∧ 3 ≤ c1 ∧ 2 ≤ c2 ∧ 8 ≤ c3) ∧ ReadsP w' B0 B1 B2 B3 dk drt dt ds ∧ Below w.heap.size w w' := by
  refine (spec_DemoProgram.calls dk drt dt ds w dm_spec).mono ?_
  rintro e w' ⟨v0, v1, v2, v3, rfl, r0, r1, r2, r3, hb⟩
  obtain ⟨B0, c0, rfl⟩ := Kd.R_slice r0
  obtain ⟨B1, c1, rfl⟩ := Kd.N_slice r1
  obtain ⟨B2, c2, rfl⟩ := Kd.R_slice r2
  obtain ⟨B3, c3, rfl⟩ := Kd.R_slice r3
  have h0 := Kd.R_reads' r0
  have h1 := Kd.N_reads' r1
  have h2 := Kd.R_reads' r2
  have h3 := Kd.R_reads' r3
  exact ⟨B0, B1, B2, B3, c0, c1, c2, c3, rfl, ⟨h0.2.1, h1.2.1, h2.2.1, h3.2.1⟩, ⟨h0.2.2, h1.2.2, h2.2.2, h3.2.2⟩, hb⟩
theorem eqD.calls (g1 g5 g6 g7 : Nat) (B0 B1 B2 B3 : Option Addr) (c0 c1 c2 c3 : Nat) (hc : 2 ≤ c0 ∧ 3 ≤ c1 ∧ 2 ≤ c2 ∧ 8 ≤ c3) (w : World) (h : ReadsP w (pA g1) (pA g5) (pA g6) (pA g7) dk drt dt ds) (h' : ReadsP w B0 B1 B2 B3 dk drt dt ds) :
    Calls Try.prog 27 #[.agg (csP g1 g5 g6 g7), .agg (csS B0 B1 B2 B3 c0 c1 c2 c3)] w fun e w' => e = .returned (.bool true) ∧ Below w.heap.size w w' := by
  have q := laws_eqProgram.calls 64 (pA g1) 2 dk (pA g5) 3 drt (pA g6) 2 dt (pA g7) 8 ds B0 c0 dk B1 c1 drt B2 c2 dt B3 c3 ds true w h.1 (Nat.le_refl _) h.2.1 (Nat.le_refl _) h.2.2.1 (Nat.le_refl _) h.2.2.2 (Nat.le_refl _) h'.1 hc.1 h'.2.1 hc.2.1 h'.2.2.1 hc.2.2.1 h'.2.2.2 hc.2.2.2 dm_eq
  rw [dk_len, drt_len, dt_len, ds_len] at q
  exact q
theorem heldD.calls (g1 g5 g6 g7 : Nat) (w : World) (h : ReadsP w (pA g1) (pA g5) (pA g6) (pA g7) dm0 dm1 dm2 dm3) :
    Calls Try.prog 29 #[.agg (csP g1 g5 g6 g7), .int .i64 1] w fun e w' => e = .returned (.int .i64 61) ∧ Below w.heap.size w w' := by
  have q := laws_heldProgram.calls 64 (pA g1) 2 dm0 (pA g5) 3 dm1 (pA g6) 2 dm2 (pA g7) 8 dm3 1 61 w h.1 (Nat.le_of_eq dm0_len) h.2.1 (Nat.le_of_eq dm1_len) h.2.2.1 (Nat.le_of_eq dm2_len) h.2.2.2 (Nat.le_of_eq dm3_len) dm_held
  rw [dm0_len, dm1_len, dm2_len, dm3_len] at q
  exact q
theorem rowsD_reads {w0 W : World} {L : List (Nat × Array Value × Nat)} {g1 g2 g3 g4 g5 g6 g7 : Nat} (h : Bx w0 W (L ++ DemoL g1 g2 g3 g4 g5 g6 g7)) : ReadsP W (pA g1) (pA g5) (pA g6) (pA g7) dk drt dt ds :=
  have q := rowsD h
  ⟨(Kd.R_reads' q.1).2.2, (Kd.S_reads' q.2.1).2.2, (Kd.R_reads' q.2.2.1).2.2, (Kd.R_reads' q.2.2.2).2.2⟩
/-- impl.DemoProgram's blocks are marked. -/
theorem markD.calls (b g1 g2 g3 g4 g5 g6 g7 : Nat) (cs : Array Value) (w0 w : World) (HB : Bx w0 w ([(b, cs, 46)] ++ DemoL g1 g2 g3 g4 g5 g6 g7)) :
    Calls Try.prog 28 #[.agg (csP g1 g5 g6 g7), .int .i64 1] w fun e w' => e = .returned (.int .i64 61) ∧ ReadsP w' (pA g1) (pA g5) (pA g6) (pA g7) dm0 dm1 dm2 dm3 ∧ w0.heap.size ≤ b ∧ w'.heap[b]? = some (.cells cs 46 (0, 0)) ∧ Below w0.heap.size w0 w' := by
  have hr := rowsD HB
  have hb : ∀ p ∈ [(b, cs, 46)] ++ DemoL g1 g2 g3 g4 g5 g6 g7, p.1 < w.heap.size := fun p hp => blk_lt (HB.2.1 p hp).2
  have hq := HB.2.2
  simp only [DemoL, List.cons_append, List.nil_append, List.pairwise_cons, List.mem_cons, List.not_mem_nil, or_false, forall_eq_or_imp, forall_eq] at hq hb
  obtain ⟨⟨b7, b6, b5, b4, b3, b2, b1⟩, ⟨n76, n75, n74, n73, n72, n71⟩, ⟨n65, n64, n63, n62, n61⟩, ⟨n54, n53, n52, n51⟩, ⟨n43, n42, n41⟩, ⟨n32, n31⟩, n21, _⟩ := hq
  obtain ⟨s0, s7, s6, s5, s4, s3, s2, s1⟩ := hb
  have d01 : ∀ k, k = g1 → ¬ (k = g5 ∨ k = g2 ∨ k = g3 ∨ k = g4) := by intro k h h'; subst h; rcases h' with h | h | h | h <;> first | exact n51 h.symm | exact n21 h.symm | exact n31 h.symm | exact n41 h.symm
  have d02 : ∀ k, k = g1 → ¬ (k = g6) := fun k h h' => n61 (h'.symm.trans h)
  have d03 : ∀ k, k = g1 → ¬ (k = g7) := fun k h h' => n71 (h'.symm.trans h)
  have d12 : ∀ k, (k = g5 ∨ k = g2 ∨ k = g3 ∨ k = g4) → ¬ (k = g6) := by intro k h h'; rcases h with h | h | h | h <;> first | exact n65 (h'.symm.trans h) | exact n62 (h'.symm.trans h) | exact n63 (h'.symm.trans h) | exact n64 (h'.symm.trans h)
  have d13 : ∀ k, (k = g5 ∨ k = g2 ∨ k = g3 ∨ k = g4) → ¬ (k = g7) := by intro k h h'; rcases h with h | h | h | h <;> first | exact n75 (h'.symm.trans h) | exact n72 (h'.symm.trans h) | exact n73 (h'.symm.trans h) | exact n74 (h'.symm.trans h)
  have d23 : ∀ k, k = g6 → ¬ (k = g7) := fun k h h' => n76 (h'.symm.trans h)
  have dlt : ∀ k, k = g1 ∨ (k = g5 ∨ k = g2 ∨ k = g3 ∨ k = g4) ∨ k = g6 ∨ k = g7 → k < w.heap.size := by intro k h; rcases h with rfl | (rfl | rfl | rfl | rfl) | rfl | rfl <;> assumption
  have q := markP.calls 64 (fun k => k = g1) (fun k => k = g5 ∨ k = g2 ∨ k = g3 ∨ k = g4) (fun k => k = g6) (fun k => k = g7) (pA g1) (pA g5) (pA g6) (pA g7) 2 3 2 8 dk dm0 drt dm1 dt dm2 ds dm3 1 3 41 53 61 w0 w HB.1 hr.1 hr.2.1 hr.2.2.1 hr.2.2.2 d01 d02 d03 d12 d13 d23 dlt dm0_is dm1_is dm2_is dm3_is
  rw [dk_len, drt_len, dt_len, ds_len] at q
  refine Calls.mono q ?_
  rintro e w' ⟨rfl, r0, r1, r2, r3, hB, hk⟩
  refine ⟨rfl, ⟨(Kd.R_reads' r0).2.2, (Kd.S_reads' r1).2.2, (Kd.R_reads' r2).2.2, (Kd.R_reads' r3).2.2⟩, (HB.2.1 _ (List.mem_cons_self ..)).1, blk_kept (HB.2.1 _ (List.mem_cons_self ..)).2 hk ?_, hB⟩
  intro h_
  rcases h_ with h | (h | h | h | h) | h | h <;> first | exact b1 h | exact b5 h | exact b2 h | exact b3 h | exact b4 h | exact b6 h | exact b7 h
end Go.Proofs.Ytjgdfbcjlebniaa.MFnExactDemoProgram
