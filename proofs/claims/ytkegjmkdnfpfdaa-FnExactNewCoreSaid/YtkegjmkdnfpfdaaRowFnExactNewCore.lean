/- Proved: the statement of the law FnExactNewCore, out of its walk and the pure statement in YtkegjmkdnfpfdaaMureFnExactNewCore. Conditions: none beyond the row's own. -/
import Derived.Test.YtkegjmkdnfpfdaaRows
import Derived.Test.YtkegjmkdnfpfdaaMFnExactNewCorex36
import Derived.Test.YtkegjmkdnfpfdaaMureFnExactNewCore
import Derived.WalkKit
import Derived.ProofKit
import Derived.OpenShut
import Derived.ShutString
import Derived.ChangeOld
import Derived.Below
import Derived.SizedLaws
import Derived.Deep.Slices
import Derived.Deep.Fields
import Derived.ChangeSame
namespace Go.Proofs.Ytkegjmkdnfpfdaa.fnExactNewCore
open Go.ChangeShapes Go.WideShapes Go.ChangeAt Go.RowKit
open Go.ChangeMaps (open_string shut_string)
open Go.Proofs.Ytkegjmkdnfpfdaa.MFnExactNewCore
open Go.Proofs.YtkegjmkdnfpfdaaW.PrintWords Go.Proofs.YtkegjmkdnfpfdaaW.PrintLast
set_option linter.unusedVariables false
set_option linter.unusedSimpArgs false
theorem own : ownKnob Try.prog.godebug = none := by kernel_rfl
theorem laidOut : laidOutB Try.prog = true := by kernel_rfl
/-- What is read as data at type t is an a that stands in the cells as d says. -/
def Rd {α : Type} (P : Program) (d : Kd α) (t : TypeId) (wf : α → Prop) : Prop :=
  ∀ (H : Type) (enc : TypeId × Value → H) (w : World) (base : Nat) (spare : Nat → Bool) (held : Bool) (fuel : Nat) (cs : List Value) (x : DataW H × List MemPlace),
    DataW.trod enc P w base spare held fuel t cs = some x → ∃ a : α, d.K w a cs ∧ wf a
theorem rd_int {P : Program} {k : IntKind} {t : TypeId} (ht : P.underlying t = some (.int k)) : Rd P (Kd.int k) t (fun a => (Lit.int k a).wf = true) := by
  intro H enc w base spare held fuel cs x h
  obtain ⟨n, rfl, rfl, hw⟩ := DataW.trod_int ht h
  exact ⟨n, rfl, hw⟩
theorem rd_bool {P : Program} {t : TypeId} (ht : P.underlying t = some .bool) : Rd P Kd.bool t (fun _ => True) := by
  intro H enc w base spare held fuel cs x h
  obtain ⟨n, rfl, rfl⟩ := DataW.trod_bool ht h
  exact ⟨n, rfl, trivial⟩
theorem rd_str {P : Program} {t : TypeId} (ht : P.underlying t = some .string) : Rd P Kd.string t (fun a => a.size ≤ maxLen) := by
  intro H enc w base spare held fuel cs x h
  obtain ⟨n, rfl, rfl, hw⟩ := DataW.trod_string ht h
  exact ⟨n, rfl, hw⟩
theorem rd_build {α : Type} {Q : Nat → α → Prop} : ∀ n : Nat, (∀ i, i < n → ∃ a, Q i a) → ∃ l : List α, l.length = n ∧ ∀ i a, l[i]? = some a → Q i a := by
  intro n
  induction n with
  | zero => intro _; exact ⟨[], rfl, fun i a h => by simp at h⟩
  | succ n ih =>
    intro h
    obtain ⟨l, hl, hq⟩ := ih (fun i hi => h i (by omega))
    obtain ⟨a, ha⟩ := h n (by omega)
    refine ⟨l ++ [a], by simp [hl], fun i b hb => ?_⟩
    rcases Nat.lt_or_ge i n with hi | hi
    · rw [List.getElem?_append_left (by omega)] at hb
      exact hq i b hb
    · rw [List.getElem?_append_right (by omega)] at hb
      have : i - l.length = 0 := by
        rcases Nat.eq_zero_or_pos (i - l.length) with h0 | h0
        · exact h0
        · rw [List.getElem?_eq_none (by simp; omega)] at hb
          cases hb
      rw [this] at hb
      have hin : i = n := by omega
      subst hin
      simp at hb
      subst hb
      exact ha
theorem rd_slice {α : Type} {P : Program} {d : Kd α} {t e : TypeId} {wf : α → Prop} (ht : P.underlying t = some (.slice e)) (hs : P.cellsOf e = d.sz) (h : Rd P d e wf) :
    Rd P (Kd.slice e d) t (fun l => l.length ≤ maxLen ∧ ∀ a ∈ l, wf a) := by
  intro H enc w base spare held fuel cs x hx
  rcases Go.Deep.open_slice ht hx with ⟨rfl, rfl⟩ | ⟨a, len, cap, m, n, D, Pl, rfl, _, hl, hm, hmm, _, hi⟩
  · exact ⟨[], ⟨none, 0, rfl, Nat.le_refl _, rfl, by simp, fun hp => absurd hp (by simp)⟩, by simp [maxLen], by simp⟩
  · have hle : len ≤ m := by rw [hmm]; split <;> omega
    obtain ⟨l, rfl, hq⟩ := rd_build (Q := fun i (b : α) => ∃ cs', w.cells? base (a.add (i * P.cellsOf e)) (P.cellsOf e) = some cs' ∧ d.K w b cs' ∧ wf b) len (fun i hi' => by
      obtain ⟨cs', h1, h2⟩ := hi i (by omega)
      obtain ⟨b, hb, hw⟩ := h _ _ _ _ _ _ _ _ _ h2
      exact ⟨b, cs', h1, hb, hw⟩)
    refine ⟨l, ⟨some a, cap, rfl, hl, rfl, by simp only [maxLen] at hm; omega, fun _ => ⟨a, rfl, fun j p hp => ?_⟩⟩, by omega, fun b hb => ?_⟩
    · obtain ⟨cs', h1, h2, _⟩ := hq j p hp
      obtain ⟨_, hcl, hat⟩ := World.cells?_some h1
      refine ⟨cs', by rw [hcl, hs], h2, fun i u hu => ?_⟩
      have hil : i < P.cellsOf e := by
        rcases Nat.lt_or_ge i cs'.length with hh | hh
        · omega
        · rw [List.getElem?_eq_none hh] at hu; cases hu
      have := hat i hil
      rw [hu, ← hs] at *
      rw [← Go.Deep.add_add]
      exact this
    · obtain ⟨i, hi2, rfl⟩ := List.getElem_of_mem hb
      obtain ⟨_, _, _, hw⟩ := hq i _ (List.getElem?_eq_getElem hi2)
      exact hw
theorem dsplit (cs : List Value) (i s : Nat) : cs.drop i = (cs.drop i).take s ++ cs.drop (i + s) := by
  rw [← List.drop_drop]
  exact (List.take_append_drop s (cs.drop i)).symm
theorem dlast {cs : List Value} {i s : Nat} (h : cs.length = i + s) : (cs.drop i).take s = cs.drop i := List.take_of_length_le (by simp; omega)

theorem rdt_3 : Rd Try.prog (Kd.int .i64) 3 (fun a => (Lit.int .i64 a).wf = true) := rd_int Try.underlying3
theorem rdc_88 : Try.prog.cellsOf 88 = 2 := by kernel_rfl
theorem rdt_88 : Rd Try.prog k88 88 wf88 := by
  intro H enc w base spare held fuel cs x h
  obtain ⟨xs, n, _, _, hlen, hxl, hg⟩ := DataW.trod_struct Try.underlying88 h
  rw [rdc_88] at hlen
  have g0 : DataW.trod enc Try.prog w base spare held n 3 ((cs.drop 0).take (Try.prog.cellsOf 3)) = xs[0]? := hg 0 _ rfl
  rw [show Try.prog.cellsOf 3 = 1 from by kernel_rfl] at g0
  obtain ⟨a0, K0, w0⟩ := rdt_3 _ _ _ _ _ _ _ _ _ (g0.trans (List.getElem?_eq_getElem (by rw [hxl]; decide)))
  have g1 : DataW.trod enc Try.prog w base spare held n 3 ((cs.drop 1).take (Try.prog.cellsOf 3)) = xs[1]? := hg 1 _ rfl
  rw [show Try.prog.cellsOf 3 = 1 from by kernel_rfl] at g1
  obtain ⟨a1, K1, w1⟩ := rdt_3 _ _ _ _ _ _ _ _ _ (g1.trans (List.getElem?_eq_getElem (by rw [hxl]; decide)))
  refine ⟨⟨a0, a1⟩, ?_, w0, w1⟩
  exact ⟨_, _, dsplit cs 0 1, K0, by have h_ := K1; rw [dlast hlen] at h_; exact h_⟩
theorem rdt_22 : Rd Try.prog (Kd.slice 88 k88) 22 (fun l => l.length ≤ maxLen ∧ ∀ a ∈ l, wf88 a) := rd_slice Try.underlying22 (by kernel_rfl) rdt_88
theorem rdc_117 : Try.prog.cellsOf 117 = 1 := by kernel_rfl
theorem rdt_117 : Rd Try.prog k117 117 wf117 := by
  intro H enc w base spare held fuel cs x h
  obtain ⟨xs, n, _, _, hlen, hxl, hg⟩ := DataW.trod_struct Try.underlying117 h
  rw [rdc_117] at hlen
  have g0 : DataW.trod enc Try.prog w base spare held n 22 ((cs.drop 0).take (Try.prog.cellsOf 22)) = xs[0]? := hg 0 _ rfl
  rw [show Try.prog.cellsOf 22 = 1 from by kernel_rfl] at g0
  obtain ⟨a0, K0, w0⟩ := rdt_22 _ _ _ _ _ _ _ _ _ (g0.trans (List.getElem?_eq_getElem (by rw [hxl]; decide)))
  refine ⟨⟨a0⟩, ?_, w0⟩
  exact (by have h_ := K0; rw [dlast hlen] at h_; exact h_)
theorem rdt_41 : Rd Try.prog (Kd.slice 117 k117) 41 (fun l => l.length ≤ maxLen ∧ ∀ a ∈ l, wf117 a) := rd_slice Try.underlying41 (by kernel_rfl) rdt_117
theorem rdt_23 : Rd Try.prog (Kd.slice 3 (Kd.int .i64)) 23 (fun l => l.length ≤ maxLen ∧ ∀ a ∈ l, (fun a => (Lit.int .i64 a).wf = true) a) := rd_slice Try.underlying23 (by kernel_rfl) rdt_3

set_option maxRecDepth 100000 in
theorem lifted (os : Os) (started : os.Started) (H : Type) (enc : TypeId × Value → H) :
    ReturnsInHanded {} Try.checked os 5 .any (Rows.fnExactNewCoreSpec.pre6 enc Try.prog Try.f5 Rows.fnExactNewCoreRow.domain false) (Rows.fnExactNewCoreSpec.post enc Try.prog Try.f5 false true false false) := by
  refine returnsInHanded_of_change_sized (C := Try.checked) own started (by kernel_rfl) Try.func5
    (ChangeSpec.witness6 (enc := enc) (C := Try.checked) false ⟨#[], #[.slice none 0 0, .slice none 0 0, .int .i64 0], []⟩ 8 (by kernel_rfl) (by kernel_rfl) (by kernel_rfl) (by kernel_rfl)) ?_
  intro W base args ds gs before hval0 hW hcnd hsz0 _
  have hval : ∀ (j : Nat) t v, Try.f5.params[j]? = some t → args[j]? = some v → Value.okWide Try.prog W .any base t v := hval0
  have hW' := hW
  obtain ⟨p, q, hA0, hV, rfl, hfz, hnd⟩ := hW
  have hA : DataW.TrodAll enc Try.prog W 0 (fun _ => true) true Try.f5.params.toList args.toList ds p := hA0
  rw [Try.params5] at hA hval
  obtain ⟨v0, vs0, d0, ds0, p0, q0, hargs, rfl, rfl, h0, r0⟩ := trodAll_cons hA
  obtain ⟨v1, vs1, d1, ds1, p1, q1, rfl, rfl, rfl, h1, r1⟩ := trodAll_cons r0
  obtain ⟨v2, vs2, d2, ds2, p2, q2, rfl, rfl, rfl, h2, r2⟩ := trodAll_cons r1
  obtain ⟨rfl, rfl, rfl⟩ := trodAll_nil r2
  obtain rfl : args = #[v0, v1, v2] := by cases args; simp_all
  obtain ⟨rfl, rfl⟩ := trodVars_none hV
  have k0_ := h0
  have lt0 : ∀ x ∈ p0, x.block < W.heap.size := by obtain ⟨m, hm⟩ := k0_; exact DataW.trod_lt m _ _ _ hm
  obtain ⟨a0, len0, cap0, rfl⟩ := okWide_slice Try.underlying41 (hval 0 41 v0 rfl rfl)
  obtain ⟨l0, ⟨A0, c0, hcs0, lc0, C0⟩, wf_0⟩ := (by obtain ⟨fuel, hf⟩ := h0; exact rdt_41 _ _ _ _ _ _ _ _ _ hf : ∃ a, (Kd.slice 117 k117).K W a (Value.slice a0 len0 cap0).cells.toList ∧ (fun l => l.length ≤ maxLen ∧ ∀ a ∈ l, wf117 a) a)
  simp [Value.cells] at hcs0
  obtain ⟨rfl, rfl, rfl⟩ := hcs0
  have k1_ := h1
  have lt1 : ∀ x ∈ p1, x.block < W.heap.size := by obtain ⟨m, hm⟩ := k1_; exact DataW.trod_lt m _ _ _ hm
  obtain ⟨a1, len1, cap1, rfl⟩ := okWide_slice Try.underlying23 (hval 1 23 v1 rfl rfl)
  obtain ⟨l1, ⟨A1, c1, hcs1, lc1, C1⟩, wf_1⟩ := (by obtain ⟨fuel, hf⟩ := h1; exact rdt_23 _ _ _ _ _ _ _ _ _ hf : ∃ a, (Kd.slice 3 (Kd.int .i64)).K W a (Value.slice a1 len1 cap1).cells.toList ∧ (fun l => l.length ≤ maxLen ∧ ∀ a ∈ l, (fun a => (Lit.int .i64 a).wf = true) a) a)
  simp [Value.cells] at hcs1
  obtain ⟨rfl, rfl, rfl⟩ := hcs1
  have k2_ := h2
  have lt2 : ∀ x ∈ p2, x.block < W.heap.size := by obtain ⟨m, hm⟩ := k2_; exact DataW.trod_lt m _ _ _ hm
  obtain ⟨a2, rfl, _, _, wf_2⟩ := open_int Try.underlying3 (hval 2 3 v2 rfl rfl) h2
  clear hA0 hval0 hsz0
  obtain ⟨k, hpure⟩ := Pure.FnExactNewCore l0 l1 a2 wf_0 wf_1 wf_2
  refine (laws_FnExactNewCore.calls k _ _ l0 _ _ l1 a2 true W C0 lc0 C1 lc1 hpure rfl).mono fun e W' ⟨he, bel0⟩ => ?_
  have bel : Below W.heap.size W W' := bel0
  subst he
  exact ⟨_, rfl, _, _, _, [], _, [], hW', trodAll_mk1 (shut_bool Try.underlying4 _), (trodAll_cons_mk (Below.trod laidOut (by kernel_rfl) (of_decide_eq_true (by kernel_rfl)) k0_ bel lt0) (trodAll_cons_mk (Below.trod laidOut (by kernel_rfl) (of_decide_eq_true (by kernel_rfl)) k1_ bel lt1) (trodAll_cons_mk (Below.trod laidOut (by kernel_rfl) (of_decide_eq_true (by kernel_rfl)) k2_ bel lt2) trodAll_mk0))), rfl, bel.frame _, fun h => by cases h⟩
theorem over : Rows.fnExactNewCoreRow.holds Try.pinned (OpenSpec.ofChange Rows.fnExactNewCoreSpec) :=
  OpenClaim.holds_of_wide 5 Try.f5 rfl rfl rfl rfl rfl rfl rfl ⟨rfl, rfl, rfl, rfl, rfl⟩ rfl rfl rfl rfl rfl (by kernel_rfl) Try.func5 (by kernel_rfl)
    (of_decide_eq_true (by kernel_rfl)) (by unfold Func.isWrapper; first | (rw [if_pos (by decide +kernel)]; kernel_rfl) | (rw [if_neg (by decide +kernel)]; exact ⟨rfl, rfl⟩))
    (fun os started H enc _ => lifted os started H enc)
theorem proved : Rows.FnExactNewCoreSaid := over
#print axioms proved
end Go.Proofs.Ytkegjmkdnfpfdaa.fnExactNewCore
namespace Go.Proofs.Ytkegjmkdnfpfdaa
/-- The row, under a short name, for the claim. -/
theorem fnExactNewCore_holds : Rows.FnExactNewCoreSaid := fnExactNewCore.proved
end Go.Proofs.Ytkegjmkdnfpfdaa
