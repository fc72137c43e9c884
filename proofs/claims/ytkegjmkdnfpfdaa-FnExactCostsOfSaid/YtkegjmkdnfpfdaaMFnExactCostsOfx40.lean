-- Text written by a program of this session (wip/tools: the kit's printer with additions of ours).
import Derived.Test.YtkegjmkdnfpfdaaMFnExactCostsOfx24
import Derived.Test.YtkegjmkdnfpfdaaMFnExactCostsOfx0
import Derived.Test.YtkegjmkdnfpfdaaMFnExactCostsOfx36
import Derived.Test.YtkegjmkdnfpfdaaMFnExactCostsOfx37
import Derived.Test.YtkegjmkdnfpfdaaMFnExactCostsOfx38
import Derived.Test.YtkegjmkdnfpfdaaMFnExactCostsOfx39
namespace Go.Proofs.Ytkegjmkdnfpfdaa.MFnExactCostsOf
open Go.RowKit Go.Proofs.YtkegjmkdnfpfdaaW.PrintWords Go.Proofs.YtkegjmkdnfpfdaaW.PrintLast Go.Proofs.YtkegjmkdnfpfdaaW.PrintMore
attribute [local go_sem] max2_int min2_int max_two min_two max_three min_three max_four min_four   -- for this text's walks alone
set_option linter.unusedVariables false
set_option linter.unusedSimpArgs false

/-! Regions in which some operations (the makers, mk) yield what is known by a property alone. -/
def setMk (base : List Value) (h : Nat → Value) (mk : List Nat) : List Value := base.mapIdx (fun i v => if mk.contains i then h i else v)
theorem setMk_len (base : List Value) (h : Nat → Value) (mk : List Nat) : (setMk base h mk).length = base.length := by simp [setMk]
theorem setMk_get (base : List Value) (h : Nat → Value) (mk : List Nat) (i : Nat) (hi : i < base.length) : (setMk base h mk).getD i undef = if mk.contains i then h i else base.getD i undef := by
  unfold setMk
  simp only [List.getD_eq_getElem?_getD, List.getElem?_mapIdx, List.getElem?_eq_getElem hi, Option.map_some, Option.getD_some]
/-- Operation i waits for q. -/
def depB (ops : Array Oper) (i q : Nat) : Bool := match (rtab .any ops).2[i]? with | some r => r.1.contains q | none => false
def StepM (P : Program) (o : Oper) (ρ : Operand → Value) (w : World) (M : Value → World → Prop) (I : World → Prop) : Prop := match (execOp ρ o).run P w with
  | .ok (.value u) w1 => M u w1 ∧ I w1
  | .ok (.enter f args) w1 => Calls P f args w1 (fun e w2 => ∃ u, e = .returned u ∧ M u w2 ∧ I w2)
  | _ => False
def StepM1 (P : Program) (ops : Array Oper) (F : Act) (M : Value → World → Prop) (I : World → Prop) (w : World) (i : Nat) : Prop := match ops[i]? with
  | some o => StepM P o F.eval w M I
  | none => False
theorem StepM1.of_step {P : Program} {ops : Array Oper} {F : Act} {V : Nat → Value} {I : World → Prop} {w : World} {i : Nat} (h : Step1 P ops F V I w i) : StepM1 P ops F (fun v _ => v = V i) I w i := by
  unfold Step1 at h
  unfold StepM1
  cases ho : ops[i]? with
  | none => rw [ho] at h; exact h.elim
  | some o =>
    rw [ho] at h
    replace h : StepV P o F.eval w (V i) I := h
    show StepM P o F.eval w (fun v _ => v = V i) I
    unfold StepV at h
    unfold StepM
    generalize (execOp F.eval o).run P w = R at h ⊢
    cases R with
    | halt x w1 => exact h.elim
    | ok n w1 =>
      cases n with
      | value u => exact h
      | enter f args =>
        refine Calls.mono h (fun e w2 he => ?_)
        exact ⟨_, he.1, rfl, he.2⟩
      | _ => exact h.elim
theorem sm_v {P : Program} {ops : Array Oper} {F : Act} {M : Value → World → Prop} {I : World → Prop} {w w1 : World} {i : Nat} {o : Oper} {v : Value} (ho : ops[i]? = some o) (hr : (execOp F.eval o).run P w = .ok (.value v) w1) (hM : M v w1) (hI : I w1) : StepM1 P ops F M I w i := by
  unfold StepM1
  rw [ho]
  show StepM P o F.eval w M I
  unfold StepM
  rw [hr]
  exact ⟨hM, hI⟩
theorem sm_call {P : Program} {ops : Array Oper} {F : Act} {M : Value → World → Prop} {I : World → Prop} {w : World} {i : Nat} {o : Oper} {f : FuncId} {fn : Func} {ars : Array Operand} {ts : Array TypeId} (ho : ops[i]? = some o) (hf : P.funcs[f]? = some fn) (hname : (fn.name == "runtime.NumGoroutine") = false) (hb : fn.body.isSome = true) (args : Array Value)
    (hop : o.op = .call { callee := .value (.func f), args := ars, argTypes := ts }) (h : Calls P f args w fun e w' => ∃ u, e = .returned u ∧ M u w' ∧ I w') (hargs : ars.map F.eval = args := by simp only [List.map_toArray, List.map_cons, List.map_nil]; rfl) : StepM1 P ops F M I w i := by
  unfold StepM1
  rw [ho]
  show StepM P o F.eval w M I
  unfold StepM
  have he := enters_ hf hname hb args w
  have hrun : (execOp F.eval o).run P w = .ok (.enter f args) w := by
    unfold execOp
    simp [hop, resolve, Deferred.ofValue, invoke, Act.eval, hargs, he]
  rw [hrun]
  exact h
/-- The steps of a region: the makers' by their property, the others' by their value. -/
def StepsG (P : Program) (ops : Array Oper) (F : Act) (vs : List Value) (mk : List Nat) (M : Nat → Value → World → Prop) (I : World → Prop) (w : World) : List Nat → Prop
  | [] => True
  | i :: r => (if mk.contains i then StepM1 P ops F (M i) I w i else Step1 P ops F (fun i => vs.getD i undef) I w i) ∧ StepsG P ops F vs mk M I w r
theorem StepsG.at {P : Program} {ops : Array Oper} {F : Act} {vs : List Value} {mk : List Nat} {M : Nat → Value → World → Prop} {I : World → Prop} {w : World} : ∀ {l : List Nat}, StepsG P ops F vs mk M I w l → ∀ i ∈ l, if mk.contains i then StepM1 P ops F (M i) I w i else Step1 P ops F (fun i => vs.getD i undef) I w i
  | _ :: _, h, i, hi => by
    rcases List.mem_cons.1 hi with rfl | hi
    · exact h.1
    · exact StepsG.at h.2 i hi
section
variable {P : Program} {ops : Array Oper} {Q : Exit → Act → World → Prop} {a : Act} {w w0 : World} {L : List (Nat × Array Value × Nat)} {id : Nat}
theorem regG_ {F : (Nat → Value) → Act} (ns : List Nat) (base : List Value) (mk : List Nat) (M : Nat → Value → World → Prop) (hM : ∀ q v w w1, M q v w → Below w.heap.size w w1 → M q v w1)
    (hF : ∀ h, putAll a (ns.zip (setMk base h mk)) = F h) (hn : ns.length = base.length) (hm1 : P.follows .mixedOrders = true) (hB : detB ops ns.zipIdx ns.length ns.length = true) (HB : Bx w0 w L)
    (hstep : ∀ (I : World → Prop), (∀ w w1, I w → Below w.heap.size w w1 → I w1) → ∀ h w', I w' → Bx w0 w' L → ∀ i, i < ns.length → (∀ q, mk.contains q = true → depB ops i q = true → M q (h q) w') → if mk.contains i then StepM1 P ops (F h) (M i) I w' i else Step1 P ops (F h) (fun i => (setMk base h mk).getD i undef) I w' i)
    (hend : ∀ h w', Bx w0 w' L → (∀ q, q < ns.length → mk.contains q = true → M q (h q) w') → wpAnyLast P .any ops Q (fun _ => True) [] 1 (List.replicate ns.length true ++ [false]).toArray (F h) w') : (Code.region id ops true).wp P Q a w := by
  obtain ⟨h1', h2, h3, h4, h5, h6, h7⟩ := detB_spec hB
  generalize hm : ns.length = m at *
  have hsz : ops.size = m + 1 := by rw [← h2, rtab_length]
  have hFz : ∀ h, putAll a (ns.zipIdx.map (fun p => (p.1, (setMk base h mk).getD p.2 undef))) = F h := fun h => by
    rw [← hF h, zip_map ns _ (by rw [setMk_len, hm, hn]) _ (fun _ _ => rfl)]
  refine start_ (S := fun _ => True) (ds := []) (n := m + 1) (List.replicate (m + 1) false).toArray hm1 hsz (by simp) trivial (fun _ => ?_)
  refine last_inv (fun _ => trivial) rfl h1' m h2 h3 (fun l a' w' => ∃ h, a' = updA a (slotOf ns.zipIdx) l (fun i => (setMk base h mk).getD i undef) ∧ Bx w0 w' L ∧ ∀ q, q < m → mk.contains q = true → l.getD q false = true → M q (h q) w') ?_ ?_ m _ a w.drew (by simp) (by simp [List.getD_eq_getElem?_getD]) (by simp) ⟨fun _ => undef, (updA_start a _ (m + 1) _).symm, HB.drew, fun q _ _ hq => ?_⟩
  · rintro a' w' ⟨h, rfl, hI, hq⟩
    rw [← full_act h4 h5, hFz]
    refine hend h w' hI (fun q hqm hqk => hq q hqm hqk ?_)
    rw [List.getD_eq_getElem?_getD, List.getElem?_append_left (by simp; omega), List.getElem?_replicate, if_pos hqm]
    rfl
  · rintro l a' w' hn2 ⟨h, rfl, hI, hq⟩ k hk hf hd
    have hdm : ∀ q, mk.contains q = true → depB ops k q = true → M q (h q) w' := fun q hqk hdp => by
      unfold depB at hdp
      cases hr : (rtab .any ops).2[k]? with
      | none => rw [hr] at hdp; cases hdp
      | some r =>
        rw [hr] at hdp
        have hqr : q ∈ r.1 := by simpa using hdp
        have hqk2 : q < k := by
          have h2' := List.all_eq_true.1 h1' k (List.mem_range.2 (by omega))
          rw [hr] at h2'
          exact of_decide_eq_true (List.all_eq_true.1 h2' q hqr)
        exact hq q (by omega) hqk (hd r hr q hqr)
    have hst := hstep (fun w'' => Bx w0 w'' L ∧ ∀ q, q < m → mk.contains q = true → l.getD q false = true → M q (h q) w'') (fun _ _ r s => ⟨r.1.below s, fun q a b c => hM q _ _ _ (r.2 q a b c) s⟩) h w' ⟨hI, hq⟩ hI k hk hdm
    by_cases c : mk.contains k = true
    · rw [if_pos c] at hst
      cases ho : ops[k]? with
      | none => unfold StepM1 at hst; rw [ho] at hst; exact hst.elim
      | some o =>
        obtain ⟨hev, hg, N, hN, hon⟩ := eval_simple (a := a) (V := fun i => (setMk base h mk).getD i undef) (V2 := fun i => (setMk base h mk).getD i undef) ho (h6 k hk (by omega)) h1' hk h2 hd (h7 k hk) (fun _ _ => rfl)
        obtain ⟨q1, q2⟩ := once_slot hon
        rw [← full_act h4 h5, hFz] at hev
        refine wpOp_step ho (fun K hKK => ?_)
        rw [if_pos (show Region.wanted o (yielded ops (updA a (slotOf ns.zipIdx) l (fun i => (setMk base h mk).getD i undef)).tmps) = true by unfold Region.wanted; rw [hg])]
        unfold Oper.wp
        rw [hev]
        unfold StepM1 at hst
        rw [ho] at hst
        replace hst : StepM P o (F h).eval w' (M k) (fun w'' => Bx w0 w'' L ∧ ∀ q, q < m → mk.contains q = true → l.getD q false = true → M q (h q) w'') := hst
        unfold StepM at hst
        have hput : ∀ u w1, M k u w1 → (Bx w0 w1 L ∧ ∀ q, q < m → mk.contains q = true → l.getD q false = true → M q (h q) w1) → K ((updA a (slotOf ns.zipIdx) l (fun i => (setMk base h mk).getD i undef)).put o.dst u) w1 := fun u w1 hu hw => by
          refine hKK _ _ ⟨setV h k u, ?_, hw.1, fun q hqm hqk hql => ?_⟩
          · rw [hN, updA_put a _ l _ k N u (by omega) q1 q2]
            unfold updA
            congr 1
            unfold updT
            refine Array.ext (by simp) (fun z h1 h2 => ?_)
            rw [Array.getElem_mapIdx, Array.getElem_mapIdx]
            cases hz : slotOf ns.zipIdx z with
            | none => rfl
            | some j =>
              simp only
              split
              · have hjm : j < base.length := by
                  have := List.all_eq_true.1 h4 _ (slotOf_mem hz)
                  rw [Bool.and_eq_true] at this
                  have h8 : j < m + 1 := by simpa using this.1
                  have h9 := List.mem_zipIdx (slotOf_mem hz)
                  omega
                rw [setMk_get _ _ _ _ hjm]
                unfold setV
                by_cases e : j = k
                · subst e; rw [if_pos rfl, if_pos c, if_pos rfl]
                · rw [if_neg e, if_neg e]
                  exact setMk_get _ _ _ _ hjm
              · rfl
          · by_cases e : q = k
            · subst e; rw [setV_same]; exact hu
            · rw [setV_other h u e]
              refine hw.2 q hqm hqk ?_
              rw [List.getD_eq_getElem?_getD, List.getElem?_set_ne (Ne.symm e), ← List.getD_eq_getElem?_getD] at hql
              exact hql
        generalize (execOp (F h).eval o).run P w' = R at hst ⊢
        cases R with
        | halt x w1 => exact hst.elim
        | ok n w1 =>
          cases n with
          | value u => exact hput u w1 hst.1 hst.2
          | enter f args =>
            refine Calls.mono hst (fun e w2 he => ?_)
            obtain ⟨u, rfl, hu, hw⟩ := he
            exact hput u w2 hu hw
          | _ => exact hst.elim
    · rw [if_neg c] at hst
      refine step_simple hB hk (by omega) hn2 hd (fun _ _ => rfl) (hFz h) hst (fun w1 r => ⟨h, rfl, r.1, fun q hqm hqk hql => r.2 q hqm hqk ?_⟩)
      have e : q ≠ k := fun e => c (e ▸ hqk)
      rw [List.getD_eq_getElem?_getD, List.getElem?_set_ne (Ne.symm e), ← List.getD_eq_getElem?_getD] at hql
      exact hql
  · exfalso
    have e : (List.replicate (m + 1) false).getD q false = true := hq
    rw [List.getD_eq_getElem?_getD, List.getElem?_replicate] at e
    split at e <;> cases e
/-- The last operation writes a box; what it writes is known. -/
theorem regB_ {F : (Nat → Value) → Act} {g t : Nat} {cs cs' : Array Value} {u : Value} {seg : List Value} (ns : List Nat) (base : List Value) (mk : List Nat) (M : Nat → Value → World → Prop) (hM : ∀ q v w w1, M q v w → Below w.heap.size w w1 → M q v w1) (ty : TypeId) (p v : Operand)
    (hF : ∀ h, putAll a (ns.zip (setMk base h mk)) = F h) (hn : ns.length = base.length) (hm1 : P.follows .mixedOrders = true) (hB : detB ops ns.zipIdx ns.length ns.length = true) (HB : Bx w0 w L)
    (hstep : ∀ (I : World → Prop), (∀ w w1, I w → Below w.heap.size w w1 → I w1) → ∀ h w', I w' → Bx w0 w' L → ∀ i, i < ns.length → (∀ q, mk.contains q = true → depB ops i q = true → M q (h q) w') → if mk.contains i then StepM1 P ops (F h) (M i) I w' i else Step1 P ops (F h) (fun i => (setMk base h mk).getD i undef) I w' i)
    (i j : Nat) (hi : L[i]? = some (g, cs, t)) (hlo : (ops[ns.length]?).map (fun o => (o.op, o.guard, o.dst)) = some (.store ty p v, none, none))
    (hp : ∀ h, (F h).eval p = .pointer (some ⟨g, j, none⟩)) (hv : ∀ h, (F h).eval v = u) (hu : u.cells.toList = seg) (ht : (P.info? ty).map (·.size) = some seg.length) (h1 : ∀ q ∈ seg, q.oneCell' = true) (hj : j + seg.length ≤ cs.size) (he : cs'.toList = cs.toList.take j ++ seg ++ cs.toList.drop (j + seg.length))
    (h : ∀ h w1, Bx w0 w1 (L.set i (g, cs', t)) → Q .normal (F h) w1) : (Code.region id ops true).wp P Q a w := by
  obtain ⟨h1', h2, h3, _, _, _, _⟩ := detB_spec hB
  obtain ⟨o, ho, hlo⟩ := Option.map_eq_some_iff.1 hlo
  simp only [Prod.mk.injEq] at hlo
  exact regG_ ns base mk M hM hF hn hm1 hB HB hstep (fun f w' hI _ => last_store i j hI hi h2 ho hlo.1 hlo.2.1 hlo.2.2 h3 h1' (hp f) (hv f) hu ht h1 hj he (h f))
end
/-- An operation that is no maker; a maker. -/
theorem nd {mk : List Nat} {i : Nat} {D A B : Prop} (h : D → B) (hc : mk.contains i = false := by rfl) : D → if mk.contains i then A else B := fun d => by rw [if_neg (by rw [hc]; decide)]; exact h d
theorem md {mk : List Nat} {i : Nat} {D A B : Prop} (h : D → A) (hc : mk.contains i = true := by rfl) : D → if mk.contains i then A else B := fun d => by rw [if_pos hc]; exact h d
abbrev sS (y : Int × Int × Int × Int × Int) : S144 := ⟨y.1, y.2.1, y.2.2.1, y.2.2.2.1, y.2.2.2.2⟩
theorem C_oneS (y : Int × Int × Int × Int × Int) {w : World} {g : Nat} (h : w.heap[g]? = some (.cells (cs5 y) 144 (0, 0))) : Kd.C k144 w (some ⟨g, 0, none⟩) [sS y].length [sS y] := by
  refine ⟨rfl, by simp, fun _ => ⟨⟨g, 0, none⟩, rfl, fun j p hp => ?_⟩⟩
  obtain rfl : j = 0 := by
    have := (List.getElem?_eq_some_iff.1 hp).1
    simp at this
    exact this
  obtain rfl := Option.some.inj hp
  refine ⟨(cs5 y).toList, rfl, k144_mk w (sS y), fun i u hu => ?_⟩
  have e : (⟨g, 0, none⟩ : Addr).add (0 * 5 + i) = ⟨g, i, none⟩ := by unfold Addr.add; split <;> simp_all
  rw [show k144.sz = 5 from rfl, e, blk_cell h i]
  simpa using hu
/-- A row of one summary. -/
def MS (y : Int × Int × Int × Int × Int) (v : Value) (w : World) : Prop := ∃ g, v = .slice (some ⟨g, 0, none⟩) 1 1 ∧ w.heap[g]? = some (.cells (cs5 y) 144 (0, 0))
theorem MS.below {y : Int × Int × Int × Int × Int} {v : Value} {w w1 : World} (h : MS y v w) (hb : Below w.heap.size w w1) : MS y v w1 := by
  obtain ⟨g, e, h⟩ := h
  exact ⟨g, e, blk_below h hb⟩
theorem dOne (n : Int) (b : Bool) (r : Int × Int × Int × Int × Int) (w : World) (h : impl_oneCost.f n b = some r) : Calls Try.prog 223 #[.int .i64 n, .bool b] w fun e w' => e = .returned (.agg (cs5 r)) ∧ Below w.heap.size w w' := impl_oneCost.calls n b _ _ _ _ _ w h
theorem dBeh (k : Nat) (a y r : Int × Int × Int × Int × Int) (v : Value) (w : World) (hM : MS y v w) (h : impl_behind.f k a.1 a.2.1 a.2.2.1 a.2.2.2.1 a.2.2.2.2 [sS y] = some r) : Calls Try.prog 224 #[.agg (cs5 a), v] w fun e w' => e = .returned (.agg (cs5 r)) ∧ Below w.heap.size w w' := by
  obtain ⟨g, rfl, hg⟩ := hM
  exact impl_behind.calls k _ _ _ _ _ (some ⟨g, 0, none⟩) 1 [sS y] _ _ _ _ _ w (C_oneS y hg) (Nat.le_refl 1) h
theorem dCost (k : Nat) (n t : Int) (w : World) (h : impl_cost.f k n = some t) : Calls Try.prog 225 #[.int .i64 n] w fun e w' => e = .returned (.int .i64 t) ∧ Below w.heap.size w w' := (impl_cost.calls k n t w h).mono (fun e w1 q => ⟨q.1, q.2.below⟩)
theorem dEit (a b r : Int × Int × Int × Int × Int) (w : World) (h : impl_either.f a.1 a.2.1 a.2.2.1 a.2.2.2.1 a.2.2.2.2 b.1 b.2.1 b.2.2.1 b.2.2.2.1 b.2.2.2.2 = some r) : Calls Try.prog 226 #[.agg (cs5 a), .agg (cs5 b)] w fun e w' => e = .returned (.agg (cs5 r)) ∧ Below w.heap.size w w' := impl_either.calls _ _ _ _ _ _ _ _ _ _ _ _ _ _ _ w h
theorem dTim (k : Nat) (a r : Int × Int × Int × Int × Int) (n : Int) (w : World) (h : impl_repeated.f k a.1 a.2.1 a.2.2.1 a.2.2.2.1 a.2.2.2.2 n = some r) : Calls Try.prog 227 #[.agg (cs5 a), .int .i64 n] w fun e w' => e = .returned (.agg (cs5 r)) ∧ Below w.heap.size w w' := impl_repeated.calls k _ _ _ _ _ n _ _ _ _ _ w h
theorem zero5 : (Try.prog.info? 144).map (fun i => (i.zero, i.size)) = some (some (.agg (cs5 (0, 0, 0, 0, 0))), 5) := by kernel_rfl
def AllN (R : Nat → Prop) : List Nat → Prop
  | [] => True
  | i :: r => R i ∧ AllN R r
theorem AllN.lt {R : Nat → Prop} {n : Nat} (h : AllN R (List.range n)) : ∀ i, i < n → R i := by
  have go : ∀ {l : List Nat}, AllN R l → ∀ i ∈ l, R i := by
    intro l
    induction l with
    | nil => intro _ i hi; cases hi
    | cons j r ih =>
      intro h i hi
      rcases List.mem_cons.1 hi with rfl | hi
      · exact h.1
      · exact ih h.2 i hi
  exact fun i hi => go h i (List.mem_range.2 hi)
/-- A region of the costs' kind: calls, reads, and rows of one summary (S tells whose); what comes last is a summary's box. -/
theorem regC {ops : Array Oper} {Q : Exit → Act → World → Prop} {a : Act} {w w0 : World} {L : List (Nat × Array Value × Nat)} {id : Nat} {F : (Nat → Value) → Act} {g : Nat} {v : Int × Int × Int × Int × Int} (ns : List Nat) (base : List Value) (mk : List Nat) (S : Nat → Int × Int × Int × Int × Int) (y : Int × Int × Int × Int × Int) (p x i : Nat)
    (hF : ∀ h, putAll a (ns.zip (setMk base h mk)) = F h) (hn : ns.length = base.length) (hB : detB ops ns.zipIdx ns.length ns.length = true) (HB : Bx w0 w L)
    (hi : L[i]? = some (g, cs5 v, 144)) (hlo : (ops[ns.length]?).map (fun o => (o.op, o.guard, o.dst)) = some (.store 144 (.tmp p) (.tmp x), none, none))
    (hp : ∀ h, (F h).eval (.tmp p) = .pointer (some ⟨g, 0, none⟩)) (hv : ∀ h, (F h).eval (.tmp x) = .agg (cs5 y))
    (hstep : ∀ (I : World → Prop), (∀ w w1, I w → Below w.heap.size w w1 → I w1) → ∀ h w', I w' → Bx w0 w' L → AllN (fun i => (∀ q, mk.contains q = true → depB ops i q = true → MS (S q) (h q) w') → if mk.contains i then StepM1 Try.prog ops (F h) (MS (S i)) I w' i else Step1 Try.prog ops (F h) (fun i => (setMk base h mk).getD i undef) I w' i) (List.range ns.length))
    (h : ∀ h w1, Aside0 (Bx w0 w1 (L.set i (g, cs5 y, 144))) → Q .normal (F h) w1) : (Code.region id ops true).wp Try.prog Q a w :=
  regB_ ns base mk (fun q => MS (S q)) (fun q v w w1 h hb => h.below hb) 144 (.tmp p) (.tmp x) hF hn (by kernel_rfl) hB HB (fun I hI h w' h0 hX i hi hd => (hstep I hI h w' h0 hX).lt i hi hd) i 0 hi hlo hp hv (seg := (cs5 y).toList) rfl info5 (one5 y) (Nat.le_refl 5) rfl (fun h' w1 q => h h' w1 ⟨q⟩)
/-- A row of one summary is made. -/
theorem sm_row {ops : Array Oper} {F : Act} {I : World → Prop} {w : World} {i : Nat} {o : Oper} (y : Int × Int × Int × Int × Int) (hI : ∀ w w1, I w → Below w.heap.size w w1 → I w1) (h0 : I w) (ho : ops[i]? = some o) (hr : (execOp F.eval o).run Try.prog w = .ok (.value (.slice (some ⟨w.heap.size, 0, none⟩) 1 1)) (w.alloc (.cells (cs5 y) 144)) := by first | (go_simp; done) | (go_simp; rfl)) : StepM1 Try.prog ops F (MS y) I w i :=
  sm_v ho hr ⟨_, rfl, blk_new _ _⟩ (hI _ _ h0 (below_alloc (Below.refl _ _) _))
/-! ### impl_summarize: function 171 -/
mutual
def impl_summarize.l0 : Nat → List (S96) → Int → List (S144) → Int → Int → Int → Int → Int → Int → Int → Int → Int → Int → Int → Option (Int × Int × Int × Int × Int)
  | 0, _, _, _, _, _, _, _, _, _, _, _, _, _, _ => none
  | k + 1, x0, x2, x3, x11, x442000, x442001, x442002, x442003, x442004, x443000, x443001, x443002, x443003, x443004 => if x11 < x2 then (if 0 ≤ x11 then (if x11 < (x0.length : Int) then ((impl_cost.f k ((rd_T96 x0 x11).f0)).bind fun t445 => ((impl_oneCost.f t445 (((rd_T96 x0 x11).f0) == 25)).bind fun bt446 => ((impl_behind.f k x442000 x442001 x442002 x442003 x442004 (([(⟨bt446.1, bt446.2.1, bt446.2.2.1, bt446.2.2.2.1, bt446.2.2.2.2⟩ : S144)] : List (S144)))).bind fun bt454 => (if ((rd_T96 x0 x11).f0) = 26 then (if 0 ≤ ((rd_T96 x0 x11).f1) then (if ((rd_T96 x0 x11).f1) < (x3.length : Int) then ((impl_behind.f k bt454.1 bt454.2.1 bt454.2.2.1 bt454.2.2.2.1 bt454.2.2.2.2 (([(⟨(rd_T144 x3 ((rd_T96 x0 x11).f1)).f0, (rd_T144 x3 ((rd_T96 x0 x11).f1)).f1, (rd_T144 x3 ((rd_T96 x0 x11).f1)).f2, (rd_T144 x3 ((rd_T96 x0 x11).f1)).f3, (rd_T144 x3 ((rd_T96 x0 x11).f1)).f4⟩ : S144)] : List (S144)))).bind fun bt463 => (impl_summarize.l0 k x0 x2 x3 (wrap64 (x11 + 1)) bt463.1 bt463.2.1 bt463.2.2.1 bt463.2.2.2.1 bt463.2.2.2.2 x443000 x443001 x443002 x443003 x443004)) else (none)) else (none)) else (if ((rd_T96 x0 x11).f0) = 21 then ((impl_match.f k x0 x11).bind fun bt468 => ((impl_summarize.f k x0 (wrap64 (x11 + 1)) bt468.2.1 x3).bind fun bt471 => ((impl_oneCost.f 0 false).bind fun bt476 => (if bt468.1 > 0 then ((impl_summarize.f k x0 (wrap64 (x11 + 1)) bt468.1 x3).bind fun bt483 => ((impl_summarize.f k x0 (wrap64 (bt468.1 + 1)) bt468.2.1 x3).bind fun bt488 => ((impl_behind.f k bt488.1 bt488.2.1 bt488.2.2.1 bt488.2.2.2.1 bt488.2.2.2.2 (([(⟨x443000, x443001, x443002, x443003, x443004⟩ : S144)] : List (S144)))).bind fun bt496 => ((impl_behind.f k bt483.1 bt483.2.1 bt483.2.2.1 bt483.2.2.2.1 bt483.2.2.2.2 (([(⟨x443000, x443001, x443002, x443003, x443004⟩ : S144)] : List (S144)))).bind fun bt504 => ((impl_either.f bt504.1 bt504.2.1 bt504.2.2.1 bt504.2.2.2.1 bt504.2.2.2.2 bt496.1 bt496.2.1 bt496.2.2.1 bt496.2.2.2.1 bt496.2.2.2.2).bind fun bt509 => ((impl_behind.f k bt454.1 bt454.2.1 bt454.2.2.1 bt454.2.2.2.1 bt454.2.2.2.2 (([(⟨bt509.1, bt509.2.1, bt509.2.2.1, bt509.2.2.2.1, bt509.2.2.2.2⟩ : S144)] : List (S144)))).bind fun bt517 => (impl_summarize.l0 k x0 x2 x3 (wrap64 (bt468.2.1 + 1)) bt517.1 bt517.2.1 bt517.2.2.1 bt517.2.2.2.1 bt517.2.2.2.2 x443000 x443001 x443002 x443003 x443004))))))) else ((impl_behind.f k bt471.1 bt471.2.1 bt471.2.2.1 bt471.2.2.2.1 bt471.2.2.2.2 (([(⟨x443000, x443001, x443002, x443003, x443004⟩ : S144)] : List (S144)))).bind fun bt525 => ((impl_either.f bt525.1 bt525.2.1 bt525.2.2.1 bt525.2.2.2.1 bt525.2.2.2.2 bt476.1 bt476.2.1 bt476.2.2.1 bt476.2.2.2.1 bt476.2.2.2.2).bind fun bt530 => ((impl_behind.f k bt454.1 bt454.2.1 bt454.2.2.1 bt454.2.2.2.1 bt454.2.2.2.2 (([(⟨bt530.1, bt530.2.1, bt530.2.2.1, bt530.2.2.2.1, bt530.2.2.2.2⟩ : S144)] : List (S144)))).bind fun bt538 => (impl_summarize.l0 k x0 x2 x3 (wrap64 (bt468.2.1 + 1)) bt538.1 bt538.2.1 bt538.2.2.1 bt538.2.2.2.1 bt538.2.2.2.2 x443000 x443001 x443002 x443003 x443004)))))))) else (if ((rd_T96 x0 x11).f0) = 24 then ((impl_match.f k x0 x11).bind fun bt543 => ((impl_summarize.f k x0 (wrap64 (x11 + 1)) bt543.2.1 x3).bind fun bt546 => ((impl_behind.f k bt546.1 bt546.2.1 bt546.2.2.1 bt546.2.2.2.1 bt546.2.2.2.2 (([(⟨x443000, x443001, x443002, x443003, x443004⟩ : S144)] : List (S144)))).bind fun bt554 => ((impl_repeated.f k bt554.1 bt554.2.1 bt554.2.2.1 bt554.2.2.2.1 bt554.2.2.2.2 ((rd_T96 x0 x11).f1)).bind fun bt559 => ((impl_behind.f k bt454.1 bt454.2.1 bt454.2.2.1 bt454.2.2.2.1 bt454.2.2.2.2 (([(⟨bt559.1, bt559.2.1, bt559.2.2.1, bt559.2.2.2.1, bt559.2.2.2.2⟩ : S144)] : List (S144)))).bind fun bt567 => (impl_summarize.l0 k x0 x2 x3 (wrap64 (bt543.2.1 + 1)) bt567.1 bt567.2.1 bt567.2.2.1 bt567.2.2.2.1 bt567.2.2.2.2 x443000 x443001 x443002 x443003 x443004)))))) else (impl_summarize.l0 k x0 x2 x3 (wrap64 (x11 + 1)) bt454.1 bt454.2.1 bt454.2.2.1 bt454.2.2.2.1 bt454.2.2.2.2 x443000 x443001 x443002 x443003 x443004))))))) else (none)) else (none)) else (some (x442000, x442001, x442002, x442003, x442004))
def impl_summarize.f : Nat → List (S96) → Int → Int → List (S144) → Option (Int × Int × Int × Int × Int)
  | 0, _, _, _, _ => none
  | k + 1, l0, a1, a2, l3 => (impl_oneCost.f 0 false).bind fun bt431 => ((impl_oneCost.f 1 false).bind fun bt436 => (impl_summarize.l0 k l0 a2 l3 a1 bt431.1 bt431.2.1 bt431.2.2.1 bt431.2.2.2.1 bt431.2.2.2.2 bt436.1 bt436.2.1 bt436.2.2.1 bt436.2.2.2.1 bt436.2.2.2.2))
end
theorem impl_summarize.mono_l : ∀ k, (∀ y0 y1 y2 y3, LeO (impl_summarize.f k y0 y1 y2 y3) (impl_summarize.f (k + 1) y0 y1 y2 y3)) ∧ (∀ y0 y1 y2 y3 y4 y5 y6 y7 y8 y9 y10 y11 y12 y13, LeO (impl_summarize.l0 k y0 y1 y2 y3 y4 y5 y6 y7 y8 y9 y10 y11 y12 y13) (impl_summarize.l0 (k + 1) y0 y1 y2 y3 y4 y5 y6 y7 y8 y9 y10 y11 y12 y13))
  | 0 => ⟨fun _ _ _ _ r h => by simp [impl_summarize.f] at h, fun _ _ _ _ _ _ _ _ _ _ _ _ _ _ r h => by simp [impl_summarize.l0] at h⟩
  | k + 1 => by
    obtain ⟨ih0, ih1⟩ := impl_summarize.mono_l k
    refine ⟨?_, ?_⟩
    · intro y0 y1 y2 y3
      unfold impl_summarize.f
      repeat' first
      | (with_reducible exact ih0 _ _ _ _)
      | (with_reducible exact ih1 _ _ _ _ _ _ _ _ _ _ _ _ _ _)
      | (with_reducible exact impl_behind.mono _ _ _ _ _ _ _)
      | (with_reducible exact impl_cost.mono _ _)
      | (with_reducible exact impl_match.mono _ _ _)
      | (with_reducible exact impl_repeated.mono _ _ _ _ _ _ _)
      | (with_reducible exact LeO.refl _)
      | (with_reducible exact LeO.none _)
      | (with_reducible refine LeO.ite ?_ ?_)
      | (with_reducible refine LeO.bind ?_ (fun _ => ?_))
      | exact ih0 _ _ _ _
      | exact ih1 _ _ _ _ _ _ _ _ _ _ _ _ _ _
      | exact impl_behind.mono _ _ _ _ _ _ _
      | exact impl_cost.mono _ _
      | exact impl_match.mono _ _ _
      | exact impl_repeated.mono _ _ _ _ _ _ _
      | exact LeO.none _
      | refine LeO.ite ?_ ?_
      | refine LeO.bind ?_ (fun _ => ?_)
    · intro y0 y1 y2 y3 y4 y5 y6 y7 y8 y9 y10 y11 y12 y13
      unfold impl_summarize.l0
      repeat' first
      | (with_reducible exact ih0 _ _ _ _)
      | (with_reducible exact ih1 _ _ _ _ _ _ _ _ _ _ _ _ _ _)
      | (with_reducible exact impl_behind.mono _ _ _ _ _ _ _)
      | (with_reducible exact impl_cost.mono _ _)
      | (with_reducible exact impl_match.mono _ _ _)
      | (with_reducible exact impl_repeated.mono _ _ _ _ _ _ _)
      | (with_reducible exact LeO.refl _)
      | (with_reducible exact LeO.none _)
      | (with_reducible refine LeO.ite ?_ ?_)
      | (with_reducible refine LeO.bind ?_ (fun _ => ?_))
      | exact ih0 _ _ _ _
      | exact ih1 _ _ _ _ _ _ _ _ _ _ _ _ _ _
      | exact impl_behind.mono _ _ _ _ _ _ _
      | exact impl_cost.mono _ _
      | exact impl_match.mono _ _ _
      | exact impl_repeated.mono _ _ _ _ _ _ _
      | exact LeO.none _
      | refine LeO.ite ?_ ?_
      | refine LeO.bind ?_ (fun _ => ?_)
theorem impl_summarize.mono : ∀ a0 a1 a2 a3 k, LeO (impl_summarize.f k a0 a1 a2 a3) (impl_summarize.f (k + 1) a0 a1 a2 a3) := by
  intro a0 a1 a2 a3 k
  obtain ⟨ih0, ih1⟩ := impl_summarize.mono_l k
  exact ih0 a0 a1 a2 a3
set_option maxHeartbeats 16000000 in
set_option maxRecDepth 100000 in
theorem impl_summarize.callsV (k : Nat) : ∀ (A0 : Option Addr) (c0 : Nat) (l0 : List (S96)) (a1 : Int) (a2 : Int) (A3 : Option Addr) (c3 : Nat) (l3 : List (S144)) (r : Int × Int × Int × Int × Int) (w : World) (hr0 : Kd.C k96 w A0 l0.length l0) (hc0 : l0.length ≤ c0) (hr3 : Kd.C k144 w A3 l3.length l3) (hc3 : l3.length ≤ c3) (h : impl_summarize.f k l0 a1 a2 l3 = some r),
    Calls Try.prog 171 #[.slice A0 l0.length c0, .int .i64 a1, .int .i64 a2, .slice A3 l3.length c3] w fun e w' => e = .returned (.agg (cs5 r)) ∧ Below w.heap.size w w' := by
  induction k using Nat.strongRecOn with
  | _ k ih =>
  intro A0 c0 l0 a1 a2 A3 c3 l3 r w hr0 hc0 hr3 hc3 h
  cases k with
  | zero => exact absurd h (by simp [impl_summarize.f])
  | succ k =>
  simp only [impl_summarize.f] at h
  obtain ⟨z, hz, H⟩ := Option.bind_eq_some_iff.mp h
  obtain ⟨tk, htk, H⟩ := Option.bind_eq_some_iff.mp H
  clear h
  have hu144 := Try.underlying144
  have hu96 := Try.underlying96
  have HR0 := Aside0.mk hr0
  have HC0 := Aside0.mk hc0
  have HR3 := Aside0.mk hr3
  have HC3 := Aside0.mk hc3
  have HX := Aside0.mk (Bx.nil w)
  have HZ := Aside0.mk hz
  have HTK := Aside0.mk htk
  have H' := Aside0.mk H
  clear H hz htk hr0 hc0 hr3 hc3
  go_enter Try.func171, Try.ntmps171
  go_wp2_with (first
    | ((with_reducible refine gate_dst (N := 8) rfl ?_); refine bx5 (N := 8) rfl rfl rfl HX.out ?_; clear HX; intro g8 w1 HX)
    | ((with_reducible refine gate_dst (N := 21) rfl ?_); refine go5 (some 21) rfl rfl Try.func223 (by kernel_rfl) rfl #[.int .i64 0, .bool false] _ rfl HX.out (dOne 0 false z _ HZ.out) ?_; clear HX; intro w2 HX)
    | ((with_reducible refine gate_dst (N := 22) rfl ?_); refine go5 (some 22) rfl rfl Try.func223 (by kernel_rfl) rfl #[.int .i64 1, .bool false] _ rfl HX.out (dOne 1 false tk _ HTK.out) ?_; clear HX; intro w3 HX)
    | ((with_reducible refine gate_dst (N := 9) rfl ?_); refine bx5 (N := 9) rfl rfl rfl HX.out ?_; clear HX; intro g9 w4 HX)
    | ((with_reducible refine gate_dst (N := 10) rfl ?_); refine bx5 (N := 10) rfl rfl rfl HX.out ?_; clear HX; intro g10 w5 HX)
    | ((with_reducible refine gate_store (t := 144) (p := 9) rfl ?_); refine st5 z 1 HX.out rfl rfl rfl rfl rfl rfl ?_; clear HX; intro w6 HX)
    | ((with_reducible refine gate_store (t := 144) (p := 10) rfl ?_); refine st5 tk 0 HX.out rfl rfl rfl rfl rfl rfl ?_; clear HX; intro w7 HX))
  go_loopg [11] k (fun kq v11 w' => ∃ (x10 : Int) (v : Int × Int × Int × Int × Int), v11 = .int .i64 x10 ∧ Aside0 (impl_summarize.l0 kq l0 a2 l3 x10 v.1 v.2.1 v.2.2.1 v.2.2.2.1 v.2.2.2.2 tk.1 tk.2.1 tk.2.2.1 tk.2.2.2.1 tk.2.2.2.2 = some r) ∧ Aside0 (kq ≤ k) ∧ Aside0 (Bx w w' [(g10, cs5 tk, 144), (g9, cs5 v, 144), (g8, cs5 (0, 0, 0, 0, 0), 144)]))
  case atStart => exact ⟨a1, z, by first | rfl | (simp; done) | (simp [*]; done), H', ⟨Nat.le_refl _⟩, HX⟩
  case round =>
    clear H' HX
    obtain ⟨x10, v, rfl, HA, HK1, HX⟩ := hrel
    cases gk with
    | zero => exact absurd HA.out (by simp [impl_summarize.l0])
    | succ k1 =>
    have H := HA.out
    clear HA
    simp only [impl_summarize.l0] at H
    by_cases c1 : x10 < a2
    case neg =>
      rw [if_neg c1] at H
      have c1b : decide (x10 < a2) = false := decide_eq_false c1
      clear c1
      obtain rfl := Option.some.inj H
      clear H
      go_wp2_with (first
        | ((with_reducible refine gate_dst (N := 123) rfl ?_); refine ld5 (N := 123) rfl 1 HX.out rfl rfl rfl rfl ?_)
        | ((with_reducible refine gate_store (t := 144) (p := 8) rfl ?_); refine st5 v 2 HX.out rfl rfl rfl rfl rfl rfl ?_; clear HX; intro w4 HX))
      refine bodyPost_ret (results_cell_row rfl _ _ g8 144 (cs5 v) (0, 0) _ rfl (HX.out.get 2 rfl) Try.underlying144 rfl (by kernel_rfl)) rfl ?_
      exact ⟨rfl, HX.out.1⟩
    rw [if_pos c1] at H
    have c1b : decide (x10 < a2) = true := decide_eq_true c1
    clear c1
    by_cases c2 : 0 ≤ x10
    case neg => rw [if_neg c2] at H; exact absurd H (by simp)
    rw [if_pos c2] at H
    by_cases c3 : x10 < (l0.length : Int)
    case neg => rw [if_neg c3] at H; exact absurd H (by simp)
    rw [if_pos c3] at H
    obtain ⟨t, ht, H⟩ := Option.bind_eq_some_iff.mp H
    obtain ⟨o, ho, H⟩ := Option.bind_eq_some_iff.mp H
    obtain ⟨u, hu, H⟩ := Option.bind_eq_some_iff.mp H
    obtain ⟨ad, e, hx0, hx1⟩ := at_T96 HR0.out x10 c2 c3
    cases e
    obtain ⟨x, hx⟩ : ∃ x, x = rd_T96 l0 x10 := ⟨_, rfl⟩
    rw [← hx] at ht ho H hx0 hx1
    replace hx0 := (HX.out.1.cell (World.block_lt_of_cell? w _ hx0)).trans hx0
    replace hx1 := (HX.out.1.cell (World.block_lt_of_cell? w _ hx1)).trans hx1
    have p2 := eq_true c2
    have p3 := eq_true c3
    have HT := Aside0.mk ht
    have HO := Aside0.mk ho
    have HU := Aside0.mk hu
    have H' := Aside0.mk H
    clear H ht ho hu hx c2 c3
    go_wp2_with (first
      | ((with_reducible refine gate_dst (N := 12) rfl ?_); refine bxE (N := 12) (cs := csI z96) (t := 96) rfl rfl HX.out ?hr ?_; (case hr => first | (go_simp; done) | (go_simp; rfl)); intro g12 w5 h1; have n_ := Aside0.mk h1; clear HX h1; have HX := n_; clear n_)
      | ((with_reducible refine gate_store (t := 96) (p := 12) rfl ?_); refine stE (cs' := csI x) (u := .agg (csI x)) (seg := (csI x).toList) 0 0 HX.out rfl rfl rfl rfl rfl rfl rfl (by kernel_rfl) (one2 x) (Nat.le_refl 2) rfl ?_; intro w6 h1; have n_ := Aside0.mk h1; clear HX h1; have HX := n_; clear n_))
    refine regC (F := ?Gz1) (v := _) [33, 34, 35, 36, 37, 38, 39, 40, 41, 42] [.agg (cs5 v), .pointer (some ⟨g12, 0, none⟩), .int .i64 x.f0, .int .i64 t, .pointer (some ⟨g12, 0, none⟩), .int .i64 x.f0, .bool (x.f0 == 25), .agg (cs5 o), undef, .agg (cs5 u)] [8] (fun i => o) u 9 42 2 ?hGz1 rfl (by kernel_rfl) HX.out rfl rfl ?hpz1 ?hvz1 ?stz1 ?nxz1
    case hGz1 => intro h; simp only [putAll, setMk, List.mapIdx_cons, List.mapIdx_nil, List.zip_cons_cons, List.zip_nil_left, Act.put, List.setIfInBounds_toArray, List.set_cons_zero, List.set_cons_succ]; rfl
    case hpz1 => intro h; rfl
    case hvz1 => intro h; rfl
    case stz1 =>
      intro I hI h w' h0 hX
      have k0 : w'.cell? ⟨g12, 0, none⟩ = some (.int .i64 x.f0) := (blk_cell (hX.get 0 rfl) 0).trans rfl
      exact ⟨nd (fun _ => st_ld rfl 2 hX rfl rfl rfl Try.underlying144 rfl info5 rfl h0),
        nd (fun _ => st_v rfl h0),
        nd (fun _ => st_v rfl h0),
        nd (fun d => st_call rfl Try.func225 (by kernel_rfl) rfl #[.int .i64 x.f0] rfl ((dCost k1 x.f0 t _ HT.out).mono (fun e w1 q => ⟨q.1, hI _ _ h0 q.2⟩))),
        nd (fun _ => st_v rfl h0),
        nd (fun _ => st_v rfl h0),
        nd (fun _ => st_v rfl h0),
        nd (fun d => st_call rfl Try.func223 (by kernel_rfl) rfl #[.int .i64 t, .bool (x.f0 == 25)] rfl ((dOne t (x.f0 == 25) o _ HO.out).mono (fun e w1 q => ⟨q.1, hI _ _ h0 q.2⟩))),
        md (fun _ => sm_row o hI h0 rfl),
        nd (fun d => st_call rfl Try.func224 (by kernel_rfl) rfl #[.agg (cs5 v), (h 8)] rfl ((dBeh k1 v o u _ _ (d 8 rfl rfl) HU.out).mono (fun e w1 q => ⟨q.1, hI _ _ h0 q.2⟩))), trivial⟩
    clear HX
    intro hh w7 HX
    have H := H'.out
    clear H'
    have k0 : w7.cell? ⟨g12, 0, none⟩ = some (.int .i64 x.f0) := (blk_cell (HX.out.get 0 rfl) 0).trans rfl
    have HP := Aside0.mk (show ∀ (a b : Int) (r' : Int × Int × Int × Int × Int) (W : World), Below w.heap.size w W → impl_summarize.f k1 l0 a b l3 = some r' → Calls Try.prog 171 #[.slice (some ad) l0.length c0, .int .i64 a, .int .i64 b, .slice A3 l3.length c3] W fun e w' => e = .returned (.agg (cs5 r')) ∧ Below W.heap.size W w' from fun a b r' W hW hh => ih k1 (by have := HK1.out; omega) _ c0 l0 a b A3 c3 l3 r' W (Kd.C_below HR0.out hW) HC0.out (Kd.C_below HR3.out hW) HC3.out hh)
    by_cases c26 : x.f0 = 26
    · rw [if_pos c26] at H
      by_cases c4 : 0 ≤ x.f1
      case neg => rw [if_neg c4] at H; exact absurd H (by simp)
      rw [if_pos c4] at H
      by_cases c5 : x.f1 < (l3.length : Int)
      case neg => rw [if_neg c5] at H; exact absurd H (by simp)
      rw [if_pos c5] at H
      obtain ⟨b, hb, H⟩ := Option.bind_eq_some_iff.mp H
      obtain ⟨ad3, e, m0, m1, m2, m3, m4⟩ := at_T144 HR3.out x.f1 c4 c5
      cases e
      obtain ⟨s, hs⟩ : ∃ s : Int × Int × Int × Int × Int, s = ((rd_T144 l3 x.f1).f0, (rd_T144 l3 x.f1).f1, (rd_T144 l3 x.f1).f2, (rd_T144 l3 x.f1).f3, (rd_T144 l3 x.f1).f4) := ⟨_, rfl⟩
      have hb' : impl_behind.f k1 u.1 u.2.1 u.2.2.1 u.2.2.2.1 u.2.2.2.2 [sS s] = some b := by rw [hs]; exact hb
      have hm : ∀ W, Below w.heap.size w W → W.cell? (ad3.add (x.f1.toNat * 5)) = some (.int .i64 s.1) ∧ W.cell? ⟨(ad3.add (x.f1.toNat * 5)).block, (ad3.add (x.f1.toNat * 5)).off + 1, none⟩ = some (.int .i64 s.2.1) ∧ W.cell? ⟨(ad3.add (x.f1.toNat * 5)).block, (ad3.add (x.f1.toNat * 5)).off + 2, none⟩ = some (.int .i64 s.2.2.1) ∧ W.cell? ⟨(ad3.add (x.f1.toNat * 5)).block, (ad3.add (x.f1.toNat * 5)).off + 3, none⟩ = some (.int .i64 s.2.2.2.1) ∧ W.cell? ⟨(ad3.add (x.f1.toNat * 5)).block, (ad3.add (x.f1.toNat * 5)).off + 4, none⟩ = some (.int .i64 s.2.2.2.2) := fun W hW => by
        rw [hs]
        exact ⟨(hW.cell (World.block_lt_of_cell? w _ m0)).trans m0, (hW.cell (World.block_lt_of_cell? w _ m1)).trans m1, (hW.cell (World.block_lt_of_cell? w _ m2)).trans m2, (hW.cell (World.block_lt_of_cell? w _ m3)).trans m3, (hW.cell (World.block_lt_of_cell? w _ m4)).trans m4⟩
      have HM := Aside0.mk hm
      have HB := Aside0.mk hb'
      have H' := Aside0.mk H
      have d26 : (x.f0 == 26) = true := beq_iff_eq.mpr c26
      have q4 := eq_true c4
      have q5 := eq_true c5
      clear H hb hb' c26 m0 m1 m2 m3 m4 hs hm c4 c5
      go_wp2
      refine regC (F := ?Gz2) (v := _) [47, 48, 49, 50, 51, 52, 53, 54] [.agg (cs5 u), .slice (some ad3) l3.length c3, .pointer (some ⟨g12, 1, none⟩), .int .i64 x.f1, .pointer (some (ad3.add (x.f1.toNat * 5))), .agg (cs5 s), undef, .agg (cs5 b)] [6] (fun i => s) b 9 54 2 ?hGz2 rfl (by kernel_rfl) HX.out rfl rfl ?hpz2 ?hvz2 ?stz2 ?nxz2
      case hGz2 => intro h; simp only [putAll, setMk, List.mapIdx_cons, List.mapIdx_nil, List.zip_cons_cons, List.zip_nil_left, Act.put, List.setIfInBounds_toArray, List.set_cons_zero, List.set_cons_succ]; rfl
      case hpz2 => intro h; rfl
      case hvz2 => intro h; rfl
      case stz2 =>
        intro I hI h w' h0 hX
        have k1' : w'.cell? ⟨g12, 1, none⟩ = some (.int .i64 x.f1) := (blk_cell (hX.get 0 rfl) 1).trans rfl
        obtain ⟨m0, m1, m2, m3, m4⟩ := HM.out w' hX.1
        exact ⟨nd (fun _ => st_ld rfl 2 hX rfl rfl rfl Try.underlying144 rfl info5 rfl h0),
          nd (fun _ => st_v rfl h0),
          nd (fun _ => st_v rfl h0),
          nd (fun _ => st_v rfl h0),
          nd (fun _ => st_v rfl h0),
          nd (fun _ => st_v rfl h0),
          md (fun _ => sm_row s hI h0 rfl),
          nd (fun d => st_call rfl Try.func224 (by kernel_rfl) rfl #[.agg (cs5 u), (h 6)] rfl ((dBeh k1 u s b _ _ (d 6 rfl rfl) HB.out).mono (fun e w1 q => ⟨q.1, hI _ _ h0 q.2⟩))), trivial⟩
      clear HX
      intro hh w8 HX
      go_wp2
      go_roundg k1
      case measure => have := HK1.out; omega
      case rel => exact ⟨_, b, rfl, H', ⟨by have := HK1.out; omega⟩, ⟨HX.out.pop⟩⟩
    by_cases c21 : x.f0 = 21
    · rw [if_neg c26, if_pos c21] at H
      obtain ⟨m, hm, H⟩ := Option.bind_eq_some_iff.mp H
      obtain ⟨A, hA, H⟩ := Option.bind_eq_some_iff.mp H
      obtain ⟨n, hn, H⟩ := Option.bind_eq_some_iff.mp H
      have d26 : (x.f0 == 26) = false := beq_eq_false_iff_ne.mpr c26
      have d21 : (x.f0 == 21) = true := beq_iff_eq.mpr c21
      have HMT := Aside0.mk hm
      have HA := Aside0.mk hA
      have HN := Aside0.mk hn
      have HH := Aside0.mk H
      clear H hm hA hn c26 c21
      by_cases c : m.1 > 0
      all_goals have H := HH.out
      all_goals clear HH
      · rw [if_pos c] at H
        obtain ⟨B, hB, H⟩ := Option.bind_eq_some_iff.mp H
        obtain ⟨C, hC, H⟩ := Option.bind_eq_some_iff.mp H
        obtain ⟨D, hD, H⟩ := Option.bind_eq_some_iff.mp H
        obtain ⟨E, hE, H⟩ := Option.bind_eq_some_iff.mp H
        obtain ⟨G, hG, H⟩ := Option.bind_eq_some_iff.mp H
        obtain ⟨b, hb, H⟩ := Option.bind_eq_some_iff.mp H
        have cb : decide (0 < m.1) = true := decide_eq_true c
        have HB0 := Aside0.mk hB
        have HC := Aside0.mk hC
        have HD := Aside0.mk hD
        have HE := Aside0.mk hE
        have HG := Aside0.mk hG
        have HB := Aside0.mk hb
        have H' := Aside0.mk H
        clear H hB hC hD hE hG hb c
        go_wp2_with (first
          | ((with_reducible refine gate_callee (f := 141) rfl ?_); refine go5 (some 60) rfl rfl Try.func141 (by kernel_rfl) rfl #[.slice (some ad) l0.length c0, .int .i64 x10] (.tuple #[.int .i64 m.1, .int .i64 m.2.1, .bool m.2.2]) rfl HX.out ((impl_match.calls k1 _ c0 l0 x10 _ _ _ _ (Kd.C_below HR0.out HX.out.1) HC0.out HMT.out).mono (fun e w' q => ⟨q.1, q.2.below⟩)) ?_; clear HX; intro w11 HX)
          | ((with_reducible refine gate_dst (N := 69) rfl ?_); refine go5 (some 69) rfl rfl Try.func171 (by kernel_rfl) rfl #[.slice (some ad) l0.length c0, .int .i64 (wrap64 (x10 + 1)), .int .i64 m.2.1, .slice A3 l3.length c3] (_) rfl HX.out (HP.out _ _ A _ HX.out.1 HA.out) ?_; clear HX; intro w12 HX)
          | ((with_reducible refine gate_callee (f := 223) rfl ?_); refine go5 (some 70) rfl rfl Try.func223 (by kernel_rfl) rfl #[.int .i64 0, .bool false] (_) rfl HX.out (dOne 0 false n _ HN.out) ?_; clear HX; intro w13 HX)
          | ((with_reducible refine gate_dst (N := 16) rfl ?_); refine bx5 (N := 16) rfl rfl rfl HX.out ?_; clear HX; intro g16 w14 HX)
          | ((with_reducible refine gate_dst (N := 17) rfl ?_); refine bx5 (N := 17) rfl rfl rfl HX.out ?_; clear HX; intro g17 w15 HX)
          | ((with_reducible refine gate_store (t := 144) (p := 16) rfl ?_); (with_reducible refine gate_ (.store 144 (.tmp 16) (.tmp 69)) rfl ?_); refine st5 A 1 HX.out rfl rfl rfl rfl rfl rfl ?_; clear HX; intro w16 HX)
          | ((with_reducible refine gate_store (t := 144) (p := 17) rfl ?_); refine st5 n 0 HX.out rfl rfl rfl rfl rfl rfl ?_; clear HX; intro w17 HX)
          | ((with_reducible refine gate_dst (N := 78) rfl ?_); refine go5 (some 78) rfl rfl Try.func171 (by kernel_rfl) rfl #[.slice (some ad) l0.length c0, .int .i64 (wrap64 (x10 + 1)), .int .i64 m.1, .slice A3 l3.length c3] (_) rfl HX.out (HP.out _ _ B _ HX.out.1 HB0.out) ?_; clear HX; intro w18 HX)
          | ((with_reducible refine gate_store (t := 144) (p := 16) rfl ?_); refine st5 B 1 HX.out rfl rfl rfl rfl rfl rfl ?_; clear HX; intro w19 HX))
        refine regC (F := ?Gz3) (v := _) [79, 80, 81, 82, 83, 84, 85, 86, 87] [.slice (some ad) l0.length c0, .int .i64 m.1, .int .i64 (wrap64 (m.1 + 1)), .int .i64 m.2.1, .slice A3 l3.length c3, .agg (cs5 C), .agg (cs5 tk), undef, .agg (cs5 D)] [7] (fun i => tk) D 17 87 0 ?hGz3 rfl (by kernel_rfl) HX.out rfl rfl ?hpz3 ?hvz3 ?stz3 ?nxz3
        case hGz3 => intro h; simp only [putAll, setMk, List.mapIdx_cons, List.mapIdx_nil, List.zip_cons_cons, List.zip_nil_left, Act.put, List.setIfInBounds_toArray, List.set_cons_zero, List.set_cons_succ]; rfl
        case hpz3 => intro h; rfl
        case hvz3 => intro h; rfl
        case stz3 =>
          intro I hI h w' h0 hX
          exact ⟨nd (fun _ => st_v rfl h0),
            nd (fun _ => st_v rfl h0),
            nd (fun _ => st_v rfl h0),
            nd (fun _ => st_v rfl h0),
            nd (fun _ => st_v rfl h0),
            nd (fun d => st_call rfl Try.func171 (by kernel_rfl) rfl #[.slice (some ad) l0.length c0, .int .i64 (wrap64 (m.1 + 1)), .int .i64 m.2.1, .slice A3 l3.length c3] rfl ((HP.out _ _ C _ hX.1 HC.out).mono (fun e w1 q => ⟨q.1, hI _ _ h0 q.2⟩))),
            nd (fun _ => st_ld rfl 3 hX rfl rfl rfl Try.underlying144 rfl info5 rfl h0),
            md (fun _ => sm_row tk hI h0 rfl),
            nd (fun d => st_call rfl Try.func224 (by kernel_rfl) rfl #[.agg (cs5 C), (h 7)] rfl ((dBeh k1 C tk D _ _ (d 7 rfl rfl) HD.out).mono (fun e w1 q => ⟨q.1, hI _ _ h0 q.2⟩))), trivial⟩
        clear HX
        intro hh w20 HX
        go_wp2
        refine regC (F := ?Gz4) (v := _) [88, 89, 90, 91, 92, 93, 94, 95, 96] [.agg (cs5 u), .agg (cs5 B), .agg (cs5 tk), undef, .agg (cs5 E), .agg (cs5 D), .agg (cs5 G), undef, .agg (cs5 b)] [3, 7] (fun i => if i = 3 then tk else G) b 9 96 4 ?hGz4 rfl (by kernel_rfl) HX.out rfl rfl ?hpz4 ?hvz4 ?stz4 ?nxz4
        case hGz4 => intro h; simp only [putAll, setMk, List.mapIdx_cons, List.mapIdx_nil, List.zip_cons_cons, List.zip_nil_left, Act.put, List.setIfInBounds_toArray, List.set_cons_zero, List.set_cons_succ]; rfl
        case hpz4 => intro h; rfl
        case hvz4 => intro h; rfl
        case stz4 =>
          intro I hI h w' h0 hX
          exact ⟨nd (fun _ => st_ld rfl 4 hX rfl rfl rfl Try.underlying144 rfl info5 rfl h0),
            nd (fun _ => st_ld rfl 1 hX rfl rfl rfl Try.underlying144 rfl info5 rfl h0),
            nd (fun _ => st_ld rfl 3 hX rfl rfl rfl Try.underlying144 rfl info5 rfl h0),
            md (fun _ => sm_row tk hI h0 rfl),
            nd (fun d => st_call rfl Try.func224 (by kernel_rfl) rfl #[.agg (cs5 B), (h 3)] rfl ((dBeh k1 B tk E _ _ (d 3 rfl rfl) HE.out).mono (fun e w1 q => ⟨q.1, hI _ _ h0 q.2⟩))),
            nd (fun _ => st_ld rfl 0 hX rfl rfl rfl Try.underlying144 rfl info5 rfl h0),
            nd (fun d => st_call rfl Try.func226 (by kernel_rfl) rfl #[.agg (cs5 E), .agg (cs5 D)] rfl ((dEit E D G _ HG.out).mono (fun e w1 q => ⟨q.1, hI _ _ h0 q.2⟩))),
            md (fun _ => sm_row G hI h0 rfl),
            nd (fun d => st_call rfl Try.func224 (by kernel_rfl) rfl #[.agg (cs5 u), (h 7)] rfl ((dBeh k1 u G b _ _ (d 7 rfl rfl) HB.out).mono (fun e w1 q => ⟨q.1, hI _ _ h0 q.2⟩))), trivial⟩
        clear HX
        intro hh w21 HX
        go_wp2
        go_roundg k1
        case measure => have := HK1.out; omega
        case rel => exact ⟨_, b, rfl, H', ⟨by have := HK1.out; omega⟩, ⟨HX.out.pop.pop.pop⟩⟩
      · rw [if_neg c] at H
        obtain ⟨E, hE, H⟩ := Option.bind_eq_some_iff.mp H
        obtain ⟨G, hG, H⟩ := Option.bind_eq_some_iff.mp H
        obtain ⟨b, hb, H⟩ := Option.bind_eq_some_iff.mp H
        have cb : decide (0 < m.1) = false := decide_eq_false c
        have HE := Aside0.mk hE
        have HG := Aside0.mk hG
        have HB := Aside0.mk hb
        have H' := Aside0.mk H
        clear H hE hG hb c
        go_wp2_with (first
          | ((with_reducible refine gate_callee (f := 141) rfl ?_); refine go5 (some 60) rfl rfl Try.func141 (by kernel_rfl) rfl #[.slice (some ad) l0.length c0, .int .i64 x10] (.tuple #[.int .i64 m.1, .int .i64 m.2.1, .bool m.2.2]) rfl HX.out ((impl_match.calls k1 _ c0 l0 x10 _ _ _ _ (Kd.C_below HR0.out HX.out.1) HC0.out HMT.out).mono (fun e w' q => ⟨q.1, q.2.below⟩)) ?_; clear HX; intro w11 HX)
          | ((with_reducible refine gate_dst (N := 69) rfl ?_); refine go5 (some 69) rfl rfl Try.func171 (by kernel_rfl) rfl #[.slice (some ad) l0.length c0, .int .i64 (wrap64 (x10 + 1)), .int .i64 m.2.1, .slice A3 l3.length c3] (_) rfl HX.out (HP.out _ _ A _ HX.out.1 HA.out) ?_; clear HX; intro w12 HX)
          | ((with_reducible refine gate_callee (f := 223) rfl ?_); refine go5 (some 70) rfl rfl Try.func223 (by kernel_rfl) rfl #[.int .i64 0, .bool false] (_) rfl HX.out (dOne 0 false n _ HN.out) ?_; clear HX; intro w13 HX)
          | ((with_reducible refine gate_dst (N := 16) rfl ?_); refine bx5 (N := 16) rfl rfl rfl HX.out ?_; clear HX; intro g16 w14 HX)
          | ((with_reducible refine gate_dst (N := 17) rfl ?_); refine bx5 (N := 17) rfl rfl rfl HX.out ?_; clear HX; intro g17 w15 HX)
          | ((with_reducible refine gate_store (t := 144) (p := 16) rfl ?_); refine st5 A 1 HX.out rfl rfl rfl rfl rfl rfl ?_; clear HX; intro w16 HX)
          | ((with_reducible refine gate_store (t := 144) (p := 17) rfl ?_); refine st5 n 0 HX.out rfl rfl rfl rfl rfl rfl ?_; clear HX; intro w17 HX))
        refine regC (F := ?Gz5) (v := _) [88, 89, 90, 91, 92, 93, 94, 95, 96] [.agg (cs5 u), .agg (cs5 A), .agg (cs5 tk), undef, .agg (cs5 E), .agg (cs5 n), .agg (cs5 G), undef, .agg (cs5 b)] [3, 7] (fun i => if i = 3 then tk else G) b 9 96 4 ?hGz5 rfl (by kernel_rfl) HX.out rfl rfl ?hpz5 ?hvz5 ?stz5 ?nxz5
        case hGz5 => intro h; simp only [putAll, setMk, List.mapIdx_cons, List.mapIdx_nil, List.zip_cons_cons, List.zip_nil_left, Act.put, List.setIfInBounds_toArray, List.set_cons_zero, List.set_cons_succ]; rfl
        case hpz5 => intro h; rfl
        case hvz5 => intro h; rfl
        case stz5 =>
          intro I hI h w' h0 hX
          exact ⟨nd (fun _ => st_ld rfl 4 hX rfl rfl rfl Try.underlying144 rfl info5 rfl h0),
            nd (fun _ => st_ld rfl 1 hX rfl rfl rfl Try.underlying144 rfl info5 rfl h0),
            nd (fun _ => st_ld rfl 3 hX rfl rfl rfl Try.underlying144 rfl info5 rfl h0),
            md (fun _ => sm_row tk hI h0 rfl),
            nd (fun d => st_call rfl Try.func224 (by kernel_rfl) rfl #[.agg (cs5 A), (h 3)] rfl ((dBeh k1 A tk E _ _ (d 3 rfl rfl) HE.out).mono (fun e w1 q => ⟨q.1, hI _ _ h0 q.2⟩))),
            nd (fun _ => st_ld rfl 0 hX rfl rfl rfl Try.underlying144 rfl info5 rfl h0),
            nd (fun d => st_call rfl Try.func226 (by kernel_rfl) rfl #[.agg (cs5 E), .agg (cs5 n)] rfl ((dEit E n G _ HG.out).mono (fun e w1 q => ⟨q.1, hI _ _ h0 q.2⟩))),
            md (fun _ => sm_row G hI h0 rfl),
            nd (fun d => st_call rfl Try.func224 (by kernel_rfl) rfl #[.agg (cs5 u), (h 7)] rfl ((dBeh k1 u G b _ _ (d 7 rfl rfl) HB.out).mono (fun e w1 q => ⟨q.1, hI _ _ h0 q.2⟩))), trivial⟩
        clear HX
        intro hh w21 HX
        go_wp2
        go_roundg k1
        case measure => have := HK1.out; omega
        case rel => exact ⟨_, b, rfl, H', ⟨by have := HK1.out; omega⟩, ⟨HX.out.pop.pop.pop⟩⟩
    by_cases c24 : x.f0 = 24
    · rw [if_neg c26, if_neg c21, if_pos c24] at H
      obtain ⟨m, hm, H⟩ := Option.bind_eq_some_iff.mp H
      obtain ⟨A, hA, H⟩ := Option.bind_eq_some_iff.mp H
      obtain ⟨D, hD, H⟩ := Option.bind_eq_some_iff.mp H
      obtain ⟨T, hT, H⟩ := Option.bind_eq_some_iff.mp H
      obtain ⟨b, hb, H⟩ := Option.bind_eq_some_iff.mp H
      have d26 : (x.f0 == 26) = false := beq_eq_false_iff_ne.mpr c26
      have d21 : (x.f0 == 21) = false := beq_eq_false_iff_ne.mpr c21
      have d24 : (x.f0 == 24) = true := beq_iff_eq.mpr c24
      have HMT := Aside0.mk hm
      have HA := Aside0.mk hA
      have HD := Aside0.mk hD
      have HTT := Aside0.mk hT
      have HB := Aside0.mk hb
      have H' := Aside0.mk H
      clear H hm hA hD hT hb c26 c21 c24
      go_wp2_with (first
        | ((with_reducible refine gate_callee (f := 141) rfl ?_); refine go5 (some 103) rfl rfl Try.func141 (by kernel_rfl) rfl #[.slice (some ad) l0.length c0, .int .i64 x10] (.tuple #[.int .i64 m.1, .int .i64 m.2.1, .bool m.2.2]) rfl HX.out ((impl_match.calls k1 _ c0 l0 x10 _ _ _ _ (Kd.C_below HR0.out HX.out.1) HC0.out HMT.out).mono (fun e w' q => ⟨q.1, q.2.below⟩)) ?_; clear HX; intro w11 HX))
      refine regC (F := ?Gz6) (v := _) [107, 108, 109, 110, 111, 112, 113, 114, 115, 116, 117, 118, 119, 120, 121] [.agg (cs5 u), .slice (some ad) l0.length c0, .int .i64 x10, .int .i64 (wrap64 (x10 + 1)), .int .i64 m.2.1, .slice A3 l3.length c3, .agg (cs5 A), .agg (cs5 tk), undef, .agg (cs5 D), .pointer (some ⟨g12, 1, none⟩), .int .i64 x.f1, .agg (cs5 T), undef, .agg (cs5 b)] [8, 13] (fun i => if i = 8 then tk else T) b 9 121 2 ?hGz6 rfl (by kernel_rfl) HX.out rfl rfl ?hpz6 ?hvz6 ?stz6 ?nxz6
      case hGz6 => intro h; simp only [putAll, setMk, List.mapIdx_cons, List.mapIdx_nil, List.zip_cons_cons, List.zip_nil_left, Act.put, List.setIfInBounds_toArray, List.set_cons_zero, List.set_cons_succ]; rfl
      case hpz6 => intro h; rfl
      case hvz6 => intro h; rfl
      case stz6 =>
        intro I hI h w' h0 hX
        have k1' : w'.cell? ⟨g12, 1, none⟩ = some (.int .i64 x.f1) := (blk_cell (hX.get 0 rfl) 1).trans rfl
        exact ⟨nd (fun _ => st_ld rfl 2 hX rfl rfl rfl Try.underlying144 rfl info5 rfl h0),
          nd (fun _ => st_v rfl h0),
          nd (fun _ => st_v rfl h0),
          nd (fun _ => st_v rfl h0),
          nd (fun _ => st_v rfl h0),
          nd (fun _ => st_v rfl h0),
          nd (fun d => st_call rfl Try.func171 (by kernel_rfl) rfl #[.slice (some ad) l0.length c0, .int .i64 (wrap64 (x10 + 1)), .int .i64 m.2.1, .slice A3 l3.length c3] rfl ((HP.out _ _ A _ hX.1 HA.out).mono (fun e w1 q => ⟨q.1, hI _ _ h0 q.2⟩))),
          nd (fun _ => st_ld rfl 1 hX rfl rfl rfl Try.underlying144 rfl info5 rfl h0),
          md (fun _ => sm_row tk hI h0 rfl),
          nd (fun d => st_call rfl Try.func224 (by kernel_rfl) rfl #[.agg (cs5 A), (h 8)] rfl ((dBeh k1 A tk D _ _ (d 8 rfl rfl) HD.out).mono (fun e w1 q => ⟨q.1, hI _ _ h0 q.2⟩))),
          nd (fun _ => st_v rfl h0),
          nd (fun _ => st_v rfl h0),
          nd (fun d => st_call rfl Try.func227 (by kernel_rfl) rfl #[.agg (cs5 D), .int .i64 x.f1] rfl ((dTim k1 D T x.f1 _ HTT.out).mono (fun e w1 q => ⟨q.1, hI _ _ h0 q.2⟩))),
          md (fun _ => sm_row T hI h0 rfl),
          nd (fun d => st_call rfl Try.func224 (by kernel_rfl) rfl #[.agg (cs5 u), (h 13)] rfl ((dBeh k1 u T b _ _ (d 13 rfl rfl) HB.out).mono (fun e w1 q => ⟨q.1, hI _ _ h0 q.2⟩))), trivial⟩
      clear HX
      intro hh w12 HX
      go_wp2
      go_roundg k1
      case measure => have := HK1.out; omega
      case rel => exact ⟨_, b, rfl, H', ⟨by have := HK1.out; omega⟩, ⟨HX.out.pop⟩⟩
    · rw [if_neg c26, if_neg c21, if_neg c24] at H
      have d26 : (x.f0 == 26) = false := beq_eq_false_iff_ne.mpr c26
      have d21 : (x.f0 == 21) = false := beq_eq_false_iff_ne.mpr c21
      have d24 : (x.f0 == 24) = false := beq_eq_false_iff_ne.mpr c24
      have H' := Aside0.mk H
      clear H c26 c21 c24
      go_wp2
      go_roundg k1
      case measure => have := HK1.out; omega
      case rel => exact ⟨_, u, rfl, H', ⟨by have := HK1.out; omega⟩, ⟨HX.out.pop⟩⟩
theorem impl_summarize.calls (k : Nat) (A0 : Option Addr) (c0 : Nat) (l0 : List (S96)) (a1 : Int) (a2 : Int) (A3 : Option Addr) (c3 : Nat) (l3 : List (S144)) (r1 r2 r3 r4 r5 : Int) (w : World) (hr0 : Kd.C k96 w A0 l0.length l0) (hc0 : l0.length ≤ c0) (hr3 : Kd.C k144 w A3 l3.length l3) (hc3 : l3.length ≤ c3) (h : impl_summarize.f k l0 a1 a2 l3 = some (r1, r2, r3, r4, r5)) :
    Calls Try.prog 171 #[.slice A0 l0.length c0, .int .i64 a1, .int .i64 a2, .slice A3 l3.length c3] w fun e w' => e = .returned (.agg #[.int .i64 r1, .int .i64 r2, .int .i64 r3, .int .i64 r4, .int .i64 r5]) ∧ Below w.heap.size w w' :=
  impl_summarize.callsV k A0 c0 l0 a1 a2 A3 c3 l3 (r1, r2, r3, r4, r5) w hr0 hc0 hr3 hc3 h

end Go.Proofs.Ytkegjmkdnfpfdaa.MFnExactCostsOf
