-- Text written by a program of this session (wip/tools: the kit's printer with additions of ours).
import Derived.Test.YtkegjmkdnfpfdaaMFnExactCostsOfx0
import Derived.Test.YtkegjmkdnfpfdaaMFnExactCostsOfx20
import Derived.Test.YtkegjmkdnfpfdaaMFnExactCostsOfx21
import Derived.Test.YtkegjmkdnfpfdaaMFnExactCostsOfx22
import Derived.Test.YtkegjmkdnfpfdaaMFnExactCostsOfx23
namespace Go.Proofs.Ytkegjmkdnfpfdaa.MFnExactCostsOf
open Go.RowKit Go.Proofs.YtkegjmkdnfpfdaaW.PrintWords Go.Proofs.YtkegjmkdnfpfdaaW.PrintLast Go.Proofs.YtkegjmkdnfpfdaaW.PrintMore
attribute [local go_sem] max2_int min2_int max_two min_two max_three min_three max_four min_four   -- for this text's walks alone
set_option linter.unusedVariables false
set_option linter.unusedSimpArgs false

/-! A region whose operations come up in any order, walked with one invariant over the operations that have come up. -/
section
variable {P : Program} {ops : Array Oper} {Q : Exit → Act → World → Prop}
/-- Each operation waits for earlier ones alone. -/
def lowB (T : List (List Nat × List Nat)) : Bool := (List.range T.length).all fun i => match T[i]? with | some r => r.1.all (fun j => decide (j < i)) | none => true
theorem low_done {T : List (List Nat × List Nat)} (hl : lowB T = true) (l : List Bool) (hn : l.length = T.length) (hr : readyT T l = []) : ∀ i, i < T.length → l.getD i false = true := by
  intro i
  induction i using Nat.strongRecOn with
  | _ i ih =>
    intro hi
    by_cases c : l.getD i false = true
    · exact c
    · exfalso
      have hm : i ∈ readyT T l := by
        unfold readyT
        refine List.mem_filter.2 ⟨List.mem_range.2 hi, ?_⟩
        unfold readyAt
        have h1 : l.getD i true = false := by
          have hi' : i < l.length := by omega
          simp only [List.getD_eq_getElem?_getD, List.getElem?_eq_getElem hi', Option.getD_some] at c ⊢
          simpa using c
        rw [h1, List.getElem?_eq_getElem hi]
        simp only [Bool.not_false, Bool.true_and]
        refine List.all_eq_true.2 (fun j hj => ?_)
        have h2 := List.all_eq_true.1 hl i (List.mem_range.2 hi)
        rw [List.getElem?_eq_getElem hi] at h2
        have h3 := of_decide_eq_true (List.all_eq_true.1 h2 j hj)
        exact ih j h3 (by omega)
      rw [hr] at hm
      cases hm
theorem all_true {l : List Bool} {n : Nat} (hn : l.length = n) (h : ∀ i, i < n → l.getD i false = true) : l = List.replicate n true := by
  refine List.ext_getElem (by simp [hn]) (fun i h1 h2 => ?_)
  have := h i (by omega)
  rw [List.getD_eq_getElem?_getD, List.getElem?_eq_getElem h1] at this
  simpa using this
theorem last_inv {T : Bool × List (List Nat × List Nat)} {S : World → Prop} {ds : List Nat} (hS : ∀ w, S w) (hT : rtab .any ops = T) (hl : lowB T.2 = true) (m : Nat) (hm : T.2.length = m + 1)
    (hlast : (match T.2[m]? with | some r => (List.range m).all (fun j => r.1.contains j) | none => false) = true) (I : List Bool → Act → World → Prop)
    (hend : ∀ a w, I (List.replicate m true ++ [false]) a w → wpAnyLast P .any ops Q S ds 1 (List.replicate m true ++ [false]).toArray a w)
    (hstep : ∀ (l : List Bool) a w, l.length = m + 1 → I l a w → ∀ i, i < m → l.getD i true = false → (∀ r, T.2[i]? = some r → ∀ j ∈ r.1, l.getD j false = true) → wpOp P ops Q i (fun a' w' => I (l.set i true) a' w') a w) :
    ∀ (fuel : Nat) (l : Array Bool) a w, l.size = m + 1 → l.toList.getD m true = false → l.toList.count false = fuel + 1 → I l.toList a w → wpAnyLast P .any ops Q S ds (fuel + 1) l a w := by
  intro fuel
  induction fuel with
  | zero =>
    intro l a w hs hlm hc hI
    have ht : l.toList = List.replicate m true ++ [false] := by
      refine List.ext_getElem (by simpa using hs) (fun i h1 h2 => ?_)
      have hi : i < m + 1 := by simp at h2; omega
      have hml : m < l.toList.length := by simp; omega
      have hlm' : l.toList[m] = false := by
        rw [List.getD_eq_getElem?_getD, List.getElem?_eq_getElem hml] at hlm
        simpa using hlm
      by_cases c : i = m
      · subst c
        rw [hlm']
        simp
      · have c2 : i < m := by omega
        rw [List.getElem_append_left (by simpa using c2)]
        simp only [List.getElem_replicate]
        cases h : l.toList[i] with
        | true => rfl
        | false =>
          exfalso
          have hsp := List.take_append_drop m l.toList
          have e1 : 0 < (l.toList.take m).count false := List.count_pos_iff.2 (by
            rw [List.mem_take_iff_getElem]
            exact ⟨i, by omega, h⟩)
          have e2 : 0 < (l.toList.drop m).count false := List.count_pos_iff.2 (by
            rw [List.drop_eq_getElem_cons hml, hlm']
            exact List.mem_cons_self)
          have := List.count_append (a := false) (l₁ := l.toList.take m) (l₂ := l.toList.drop m)
          rw [hsp] at this
          omega
    have := hend a w (ht ▸ hI)
    rw [← ht] at this
    exact this
  | succ fuel ih =>
    intro l a w hs hlm hc hI
    have hrd : ∀ i, i ∈ Region.ready .any ops l → i < T.2.length ∧ l.toList.getD i true = false ∧ ∀ r, T.2[i]? = some r → ∀ j ∈ r.1, l.toList.getD j false = true := by
      intro i hi
      rw [ready_eq, hT] at hi
      unfold readyT at hi
      obtain ⟨hi1, hi2⟩ := List.mem_filter.1 hi
      unfold readyAt at hi2
      rw [Bool.and_eq_true] at hi2
      refine ⟨List.mem_range.1 hi1, by simpa using hi2.1, fun r hr j hj => ?_⟩
      have := hi2.2
      rw [hr] at this
      exact List.all_eq_true.1 this j hj
    refine ⟨fun h0 => ?_, fun i hi => ?_⟩
    · exfalso
      rw [ready_eq, hT] at h0
      have := low_done hl l.toList (by simpa [hm] using hs) h0 m (by omega)
      rw [List.getD_eq_getElem?_getD] at this hlm
      have hml : m < l.toList.length := by simp; omega
      rw [List.getElem?_eq_getElem hml] at this hlm
      simp only [Option.getD_some] at this hlm
      rw [this] at hlm
      cases hlm
    obtain ⟨hi1, hf, hd⟩ := hrd i hi
    have hne : i ≠ m := by
      intro e
      subst e
      have hr := List.getElem?_eq_getElem hi1
      rw [hr] at hlast
      simp only at hlast
      have : l.toList = List.replicate i true ++ [false] := by
        refine List.ext_getElem (by simpa using hs) (fun k h1 h2 => ?_)
        have hk : k < i + 1 := by simp at h2; omega
        by_cases c : k = i
        · subst c
          have hml : k < l.toList.length := h1
          rw [List.getD_eq_getElem?_getD, List.getElem?_eq_getElem hml] at hlm
          simp only [Option.getD_some] at hlm
          rw [hlm]
          simp
        · have c2 : k < i := by omega
          rw [List.getElem_append_left (by simpa using c2)]
          simp only [List.getElem_replicate]
          have h3 := List.all_eq_true.1 hlast k (List.mem_range.2 c2)
          have h4 := hd _ hr k (by simpa using h3)
          rw [List.getD_eq_getElem?_getD, List.getElem?_eq_getElem h1] at h4
          simpa using h4
      rw [this] at hc
      simp [List.count_append, List.count_replicate] at hc
    have hst := hstep l.toList a w (by simpa using hs) hI i (by omega) hf hd
    refine wpOp_mono (fun a' w' h' => ⟨fun _ _ => hS w', ?_⟩) hst
    have hi' : i < l.toList.length := by simp; omega
    have hfi : l.toList[i] = false := by
      rw [List.getD_eq_getElem?_getD, List.getElem?_eq_getElem hi'] at hf
      simpa using hf
    refine ih _ a' w' (by simpa using hs) ?_ ?_ (by simpa using h')
    · rw [Array.toList_setIfInBounds, List.getD_eq_getElem?_getD, List.getElem?_set_ne hne, ← List.getD_eq_getElem?_getD]
      exact hlm
    · rw [Array.toList_setIfInBounds, List.count_set hi', hfi]
      show l.toList.count false - 1 + 0 = fuel + 1
      omega
end
/-- The slots as they are when the operations of l have come up: D tells which operation writes a slot, V what it writes. -/
def updT (D : Nat → Option Nat) (l : List Bool) (V : Nat → Value) (t : Array Value) : Array Value := t.mapIdx fun k v => match D k with | some i => if l.getD i false then V i else v | none => v
def updA (a : Act) (D : Nat → Option Nat) (l : List Bool) (V : Nat → Value) : Act := { a with tmps := updT D l V a.tmps }
def setV (V : Nat → Value) (i : Nat) (v : Value) : Nat → Value := fun j => if j = i then v else V j
theorem setV_same (V : Nat → Value) (i : Nat) (v : Value) : setV V i v i = v := if_pos rfl
theorem setV_other (V : Nat → Value) {i j : Nat} (v : Value) (h : j ≠ i) : setV V i v j = V j := if_neg h
theorem updA_start (a : Act) (D : Nat → Option Nat) (n : Nat) (V : Nat → Value) : updA a D (List.replicate n false) V = a := by
  unfold updA updT
  have : a.tmps.mapIdx (fun k v => match D k with | some i => if (List.replicate n false).getD i false then V i else v | none => v) = a.tmps := by
    refine Array.ext (by simp) (fun k h1 h2 => ?_)
    rw [Array.getElem_mapIdx]
    cases D k with
    | none => rfl
    | some i =>
      have : (List.replicate n false).getD i false = false := by
        rw [List.getD_eq_getElem?_getD, List.getElem?_replicate]
        split <;> rfl
      simp only [this, Bool.false_eq_true, if_false]
  rw [this]
theorem updA_put (a : Act) (D : Nat → Option Nat) (l : List Bool) (V : Nat → Value) (i N : Nat) (v : Value) (hi : i < l.length) (hD : D N = some i) (hu : ∀ k, D k = some i → k = N) :
    (updA a D l V).put (some N) v = updA a D (l.set i true) (setV V i v) := by
  unfold updA updT Act.put
  simp only
  congr 1
  refine Array.ext (by simp) (fun k h1 h2 => ?_)
  have hk0 : k < (a.tmps.mapIdx (fun k v => match D k with | some i => if l.getD i false then V i else v | none => v)).size := by simpa using h1
  rw [Array.getElem_setIfInBounds hk0, Array.getElem_mapIdx]
  by_cases c : N = k
  · subst c
    rw [if_pos rfl]
    simp [List.getD_eq_getElem?_getD, hi, setV, hD]
  · rw [if_neg c, Array.getElem_mapIdx]
    cases hk : D k with
    | none => rfl
    | some j =>
      have hj : j ≠ i := fun e => c (hu k (e ▸ hk)).symm
      simp only [List.getD_eq_getElem?_getD, List.getElem?_set_ne (Ne.symm hj), setV_other V v hj]
theorem updA_skip (a : Act) (D : Nat → Option Nat) (l : List Bool) (V : Nat → Value) (i : Nat) (hu : ∀ k, D k ≠ some i) : updA a D l V = updA a D (l.set i true) V := by
  unfold updA updT
  congr 1
  refine Array.ext (by simp) (fun k h1 h2 => ?_)
  rw [Array.getElem_mapIdx, Array.getElem_mapIdx]
  cases hk : D k with
  | none => rfl
  | some j =>
    have hj : j ≠ i := fun e => hu k (e ▸ hk)
    simp only [List.getD_eq_getElem?_getD, List.getElem?_set_ne (Ne.symm hj)]
theorem updA_tmp (a : Act) (D : Nat → Option Nat) (l : List Bool) (V : Nat → Value) (i N : Nat) (hN : N < a.tmps.size) (hD : D N = some i) (hl : l.getD i false = true) : (updA a D l V).eval (.tmp N) = V i := by
  unfold updA updT Act.eval
  simp only [Array.getD_eq_getD_getElem?, Array.getElem?_mapIdx, Array.getElem?_eq_getElem hN, Option.map_some, Option.getD_some, hD, hl, if_true]
theorem updA_old (a : Act) (D : Nat → Option Nat) (l : List Bool) (V : Nat → Value) (N : Nat) (hD : D N = none) : (updA a D l V).eval (.tmp N) = a.eval (.tmp N) := by
  unfold updA updT Act.eval
  simp only [Array.getD_eq_getD_getElem?, Array.getElem?_mapIdx, hD]
  cases a.tmps[N]? <;> rfl
/-- The slots' table as a function. -/
def slotOf (ps : List (Nat × Nat)) (k : Nat) : Option Nat := (ps.find? (fun p => p.1 == k)).map (·.2)
theorem slotOf_mem {ps : List (Nat × Nat)} {k i : Nat} (h : slotOf ps k = some i) : (k, i) ∈ ps := by
  unfold slotOf at h
  cases hf : ps.find? (fun p => p.1 == k) with
  | none => rw [hf] at h; cases h
  | some p =>
    rw [hf] at h
    have h1 := List.mem_of_find?_eq_some hf
    have h2 := List.find?_some hf
    obtain ⟨a, b⟩ := p
    simp only [Option.map_some, Option.some.injEq, beq_iff_eq] at h h2
    subst h h2
    exact h1
def onceB (ps : List (Nat × Nat)) (N i : Nat) : Bool := slotOf ps N == some i && ps.all (fun p => p.2 != i || p.1 == N)
theorem once_slot {ps : List (Nat × Nat)} {N i : Nat} (h : onceB ps N i = true) : slotOf ps N = some i ∧ ∀ k, slotOf ps k = some i → k = N := by
  unfold onceB at h
  rw [Bool.and_eq_true, beq_iff_eq] at h
  refine ⟨h.1, fun k hk => ?_⟩
  have := List.all_eq_true.1 h.2 _ (slotOf_mem hk)
  simpa using this
theorem updA_put_same (a : Act) (D : Nat → Option Nat) (l : List Bool) (V : Nat → Value) (i N : Nat) (hi : i < l.length) (hD : D N = some i) (hu : ∀ k, D k = some i → k = N) :
    (updA a D l V).put (some N) (V i) = updA a D (l.set i true) V := by
  rw [updA_put a D l V i N _ hi hD hu]
  congr 1
  funext j
  unfold setV
  split <;> simp_all
theorem putAll_upd (a : Act) (D : Nat → Option Nat) (V : Nat → Value) : ∀ (ps : List (Nat × Nat)) (l : List Bool), (∀ p ∈ ps, p.2 < l.length ∧ D p.1 = some p.2 ∧ ∀ k, D k = some p.2 → k = p.1) →
    putAll (updA a D l V) (ps.map (fun p => (p.1, V p.2))) = updA a D (ps.foldl (fun l p => l.set p.2 true) l) V
  | [], _, _ => rfl
  | p :: ps, l, h => by
    obtain ⟨h1, h2, h3⟩ := h p List.mem_cons_self
    rw [List.map_cons, List.foldl_cons]
    unfold putAll
    rw [updA_put_same a D l V p.2 p.1 h1 h2 h3]
    exact putAll_upd a D V ps _ (fun q hq => by
      obtain ⟨q1, q2, q3⟩ := h q (List.mem_cons_of_mem _ hq)
      exact ⟨by simpa using q1, q2, q3⟩)
/-- A region of m operations in any order, and a last one behind them: NJ is what holds when the operations of l have come up, V what they have written. -/
theorem makers_ {P : Program} {ops : Array Oper} {Q : Exit → Act → World → Prop} {T : Bool × List (List Nat × List Nat)} {S : World → Prop} {ds : List Nat} {a : Act} {w : World} (ps : List (Nat × Nat)) (NJ : List Bool → (Nat → Value) → World → Prop) (V0 : Nat → Value)
    (hS : ∀ w, S w) (hT : rtab .any ops = T) (hl : lowB T.2 = true) (m : Nat) (hm : T.2.length = m + 1)
    (hlast : (match T.2[m]? with | some r => (List.range m).all (fun j => r.1.contains j) | none => false) = true)
    (hps : (ps.all (fun p => decide (p.2 < m + 1) && onceB ps p.1 p.2)) = true)
    (hfold : ps.foldl (fun l p => l.set p.2 true) (List.replicate (m + 1) false) = List.replicate m true ++ [false])
    (h0 : NJ (List.replicate (m + 1) false) V0 w)
    (hend : ∀ V w', NJ (List.replicate m true ++ [false]) V w' → wpAnyLast P .any ops Q S ds 1 (List.replicate m true ++ [false]).toArray (putAll a (ps.map (fun p => (p.1, V p.2)))) w')
    (hstep : ∀ (l : List Bool) V w', l.length = m + 1 → NJ l V w' → ∀ i, i < m → l.getD i true = false → (∀ r, T.2[i]? = some r → ∀ j ∈ r.1, l.getD j false = true) →
      ∃ o, ops[i]? = some o ∧ ∃ N, o.dst = some N ∧ onceB ps N i = true ∧ ∀ K' : Act → World → Prop, (∀ v w1, NJ (l.set i true) (setV V i v) w1 → K' ((updA a (slotOf ps) l V).put (some N) v) w1) →
        if Region.wanted o (yielded ops (updA a (slotOf ps) l V).tmps) = true then Oper.wp P o (updA a (slotOf ps) l V) w' K' Q else K' ((updA a (slotOf ps) l V).put o.dst undef) w') :
    wpAnyLast P .any ops Q S ds (m + 1) (List.replicate (m + 1) false).toArray a w := by
  refine last_inv hS hT hl m hm hlast (fun l a' w' => ∃ V, a' = updA a (slotOf ps) l V ∧ NJ l V w') ?_ ?_ m _ a w (by simp) (by simp [List.getD_eq_getElem?_getD]) (by simp) ⟨V0, (updA_start a _ (m + 1) V0).symm, by simpa using h0⟩
  · rintro a' w' ⟨V, rfl, hV⟩
    have := hend V w' hV
    rw [← updA_start a (slotOf ps) (m + 1) V, putAll_upd a (slotOf ps) V ps _ (fun p hp => ?_), hfold] at this
    · exact this
    · have := List.all_eq_true.1 hps p hp
      rw [Bool.and_eq_true] at this
      obtain ⟨h1, h2⟩ := this
      exact ⟨by simpa using h1, (once_slot h2).1, (once_slot h2).2⟩
  · rintro l a' w' hn ⟨V, rfl, hV⟩ i hi hf hd
    obtain ⟨o, ho, N, hN, hon, hst⟩ := hstep l V w' hn hV i hi hf hd
    refine wpOp_step ho (fun K' hK => hst K' (fun v w1 hv => ?_))
    refine hK _ _ ⟨setV V i v, ?_, hv⟩
    obtain ⟨q1, q2⟩ := once_slot hon
    exact updA_put a _ l V i N v (by omega) q1 q2
/-! Boxes of one's own, all in one fact; and a region whose operations yield what they yield in whatever order. -/
def Bx (w0 w : World) (L : List (Nat × Array Value × Nat)) : Prop := Below w0.heap.size w0 w ∧ (∀ p ∈ L, w0.heap.size ≤ p.1 ∧ w.heap[p.1]? = some (.cells p.2.1 p.2.2 (0, 0))) ∧ L.Pairwise (fun p q => p.1 ≠ q.1)
section
variable {w0 w w1 : World} {L : List (Nat × Array Value × Nat)} {g t : Nat} {cs : Array Value}
theorem Bx.nil (w : World) : Bx w w [] := ⟨Below.refl _ _, fun p hp => (by cases hp), List.Pairwise.nil⟩
theorem Bx.below (h : Bx w0 w L) (hb : Below w.heap.size w w1) : Bx w0 w1 L := ⟨below_step h.1 hb, fun p hp => ⟨(h.2.1 p hp).1, blk_below (h.2.1 p hp).2 hb⟩, h.2.2⟩
theorem Bx.alloc (h : Bx w0 w L) (o : Obj) : Bx w0 (w.alloc o) L := h.below (below_alloc (Below.refl _ _) o)
theorem Bx.drew (h : Bx w0 w L) : Bx w0 w.drew L := h.below (below_drew (Below.refl _ _))
theorem Bx.drewN (h : Bx w0 w L) (n : Nat) : Bx w0 (w.drewN n) L := h.below (pw_below_drewN (Below.refl _ _) n)
theorem Bx.get (h : Bx w0 w L) (i : Nat) (hi : L[i]? = some (g, cs, t)) : w.heap[g]? = some (.cells cs t (0, 0)) := (h.2.1 _ (List.mem_of_getElem? hi)).2
theorem Bx.ge (h : Bx w0 w L) (i : Nat) (hi : L[i]? = some (g, cs, t)) : w0.heap.size ≤ g := (h.2.1 _ (List.mem_of_getElem? hi)).1
theorem Bx.new (h : Bx w0 w L) (hg : g = w.heap.size) (hb : w1.heap[g]? = some (.cells cs t (0, 0))) (hB : Below w.heap.size w w1) : Bx w0 w1 ((g, cs, t) :: L) :=
  ⟨below_step h.1 hB, fun p hp => by
    rcases List.mem_cons.1 hp with rfl | hp
    · exact ⟨by rw [show g = w.heap.size from hg]; exact h.1.size, hb⟩
    · exact ⟨(h.2.1 p hp).1, blk_below (h.2.1 p hp).2 hB⟩, List.pairwise_cons.2 ⟨fun q hq => by
    have := blk_lt (h.2.1 q hq).2
    show g ≠ q.1
    omega, h.2.2⟩⟩
theorem Bx.pop (h : Bx w0 w ((g, cs, t) :: L)) : Bx w0 w L := ⟨h.1, fun p hp => h.2.1 p (List.mem_cons_of_mem _ hp), (List.pairwise_cons.1 h.2.2).2⟩
theorem below_cells {g : Nat} (hg : w0.heap.size ≤ g) : ∀ (seg : List Value) (j : Nat) {w : World}, Below w0.heap.size w0 w → Below w0.heap.size w0 (w.setCells g j seg)
  | [], _, _, h => h
  | v :: r, j, w, h => by
    rw [World.setCells]
    exact below_cells hg r (j + 1) (below_set h hg)
theorem Bx.put {cs' : Array Value} {seg : List Value} (h : Bx w0 w L) (i : Nat) (hi : L[i]? = some (g, cs, t)) (j : Nat) (hj : j + seg.length ≤ cs.size) (he : cs'.toList = cs.toList.take j ++ seg ++ cs.toList.drop (j + seg.length)) :
    Bx w0 (w.setCells g j seg) (L.set i (g, cs', t)) := by
  have hb := h.get i hi
  obtain ⟨cur', h3, _, h5⟩ := setCells_row seg j w cs hb hj
  obtain rfl : cur' = cs' := by rw [← Array.toList_inj, h5, he]
  refine ⟨below_cells (h.ge i hi) seg j h.1, fun p hp => ?_, ?_⟩
  · obtain ⟨m, hm⟩ := List.getElem?_of_mem hp
    rw [List.getElem?_set] at hm
    by_cases c : i = m
    · subst c
      rw [if_pos rfl] at hm
      split at hm
      · cases hm
        exact ⟨h.ge i hi, h3⟩
      · cases hm
    · rw [if_neg c] at hm
      have hpm := h.2.1 p (List.mem_of_getElem? hm)
      refine ⟨hpm.1, (setCells_far seg j p.1 ?_).trans hpm.2⟩
      have hil := (List.getElem?_eq_some_iff.1 hi)
      have hml := (List.getElem?_eq_some_iff.1 hm)
      have hpw := List.pairwise_iff_getElem.1 h.2.2
      rcases Nat.lt_or_gt_of_ne c with c1 | c1
      · have := hpw i m hil.1 hml.1 c1
        rw [hil.2, hml.2] at this
        exact Ne.symm this
      · have := hpw m i hml.1 hil.1 c1
        rw [hil.2, hml.2] at this
        exact this
  · have hil := (List.getElem?_eq_some_iff.1 hi)
    refine List.pairwise_iff_getElem.2 (fun a b ha hb2 hab => ?_)
    rw [List.length_set] at ha hb2
    have := List.pairwise_iff_getElem.1 h.2.2 a b ha hb2 hab
    rw [List.getElem_set, List.getElem_set]
    split <;> split
    · omega
    · rename_i e _; subst e; rw [hil.2] at this; exact this
    · rename_i _ e; subst e; rw [hil.2] at this; exact this
    · exact this
/-- A struct is read whole. -/
theorem run_agg {P : Program} {d : TypeDesc} (ty : TypeId) (hb : w.heap[g]? = some (.cells cs t (0, 0))) (hu : P.underlying ty = some d) (hd : (match d with | .struct _ | .array _ _ => true | _ => false) = true) (hi : (P.info? ty).map (·.size) = some cs.size) :
    (Instr.loadAt ty (.pointer (some ⟨g, 0, none⟩))).run P w = .ok (.agg cs) w := by
  simp only [Instr.loadAt, Instr.sureAddr, Sem.run_bind, Sem.run_pure, Result.andThen_ok, run_loadVar_row w g t ty cs (0, 0) d hb hu hd hi]
end
section
variable {P : Program} {ops : Array Oper} {rest : List Oper} {o : Oper} {a : Act} {Q : Exit → Act → World → Prop} {w0 W : World} {L : List (Nat × Array Value × Nat)} {g t : Nat} {cs cs' : Array Value}
/-- A new box. -/
theorem bxE {N : Tmp} (hd : o.dst = some N) (hgd : o.guard = none) (HB : Bx w0 W L)
    (hrun : (execOp a.eval o).run P W = .ok (.value (.pointer (some ⟨W.heap.size, 0, none⟩))) (W.alloc (.cells cs t (0, 0))))
    (h : ∀ g w1, Bx w0 w1 ((g, cs, t) :: L) → wpList P ops Q rest (a.put o.dst (.pointer (some ⟨g, 0, none⟩))) w1) : wpList P ops Q (o :: rest) a W :=
  box_event hgd hd hrun (fun _ hg _ hb hB => h _ _ (HB.new hg hb hB))
/-- A box, or a part of it, is written. -/
theorem stE {ty : TypeId} {p v : Operand} {u : Value} {seg : List Value} (i : Nat) (j : Nat) (HB : Bx w0 W L) (hi : L[i]? = some (g, cs, t)) (ho : o.op = .store ty p v) (hgd : o.guard = none) (hN : o.dst = none) (hp : a.eval p = .pointer (some ⟨g, j, none⟩)) (hv : a.eval v = u)
    (hu : u.cells.toList = seg) (ht : (P.info? ty).map (·.size) = some seg.length) (h1 : ∀ q ∈ seg, q.oneCell' = true) (hj : j + seg.length ≤ cs.size) (he : cs'.toList = cs.toList.take j ++ seg ++ cs.toList.drop (j + seg.length))
    (h : ∀ w1, Bx w0 w1 (L.set i (g, cs', t)) → wpList P ops Q rest a w1) : wpList P ops Q (o :: rest) a W := by
  refine wpList_plain hgd fun K hK => ?_
  unfold Oper.wp execOp
  simp only [ho, hp, hv, Sem.run_bind, run_store_run ty u seg (HB.get i hi) hu ht hj h1]
  show K (a.put o.dst undef) _
  rw [hN]
  exact hK _ _ (h _ (HB.put i hi j hj he))
/-- A box is read whole. -/
theorem ldE {ty : TypeId} {p : Operand} {d : TypeDesc} {N : Tmp} (hd : o.dst = some N) (i : Nat) (HB : Bx w0 W L) (hi : L[i]? = some (g, cs, t)) (ho : o.op = .load ty p) (hgd : o.guard = none) (hp : a.eval p = .pointer (some ⟨g, 0, none⟩)) (hu : P.underlying ty = some d) (hst : (match d with | .struct _ | .array _ _ => true | _ => false) = true) (ht : (P.info? ty).map (·.size) = some cs.size)
    (h : wpList P ops Q rest (a.put o.dst (.agg cs)) W) : wpList P ops Q (o :: rest) a W := by
  refine wpList_plain hgd fun K hK => ?_
  unfold Oper.wp execOp
  simp only [ho, hp, Sem.run_bind, run_agg ty (HB.get i hi) hu hst ht]
  exact hK _ _ h
end
/-- What an operation yields, whatever slots it does not read hold. -/
def StepV (P : Program) (o : Oper) (ρ : Operand → Value) (w : World) (v : Value) (I : World → Prop) : Prop := match (execOp ρ o).run P w with
  | .ok (.value u) w1 => u = v ∧ I w1
  | .ok (.enter f args) w1 => Calls P f args w1 (fun e w2 => e = .returned v ∧ I w2)
  | _ => False
/-- Operation i of a region is of the simple kind: it has a slot of its own and reads old slots, and those that it waits for. -/
def simpleB (ops : Array Oper) (T : List (List Nat × List Nat)) (ps : List (Nat × Nat)) (i : Nat) : Bool := match ops[i]? with
  | some o => o.guard.isNone && (match o.dst with | some N => onceB ps N i | none => false) && (match o.op with | .select _ _ => false | _ => true) && o.op.operands.toList.all (fun x => match x with
    | .tmp N => (match slotOf ps N with | none => true | some j => (match T[i]? with | some r => r.1.contains j | none => false))
    | _ => true)
  | none => false
theorem updA_tmp2 (a : Act) (D : Nat → Option Nat) (l l2 : List Bool) (V : Nat → Value) (i N : Nat) (hD : D N = some i) (hl : l.getD i false = true) (hl2 : l2.getD i false = true) : (updA a D l V).eval (.tmp N) = (updA a D l2 V).eval (.tmp N) := by
  unfold updA updT Act.eval
  simp only [Array.getD_eq_getD_getElem?, Array.getElem?_mapIdx, hD, hl, hl2, if_true]
/-- The step of operation i. -/
def Step1 (P : Program) (ops : Array Oper) (F : Act) (V : Nat → Value) (I : World → Prop) (w : World) (i : Nat) : Prop := match ops[i]? with
  | some o => StepV P o F.eval w (V i) I
  | none => False
def StepsV (P : Program) (ops : Array Oper) (F : Act) (V : Nat → Value) (I : World → Prop) (w : World) : List Nat → Prop
  | [] => True
  | i :: r => Step1 P ops F V I w i ∧ StepsV P ops F V I w r
theorem StepsV.at {P : Program} {ops : Array Oper} {F : Act} {V : Nat → Value} {I : World → Prop} {w : World} : ∀ {l : List Nat}, StepsV P ops F V I w l → ∀ i ∈ l, Step1 P ops F V I w i
  | _ :: _, h, i, hi => by
    rcases List.mem_cons.1 hi with rfl | hi
    · exact h.1
    · exact StepsV.at h.2 i hi
theorem st_v {P : Program} {ops : Array Oper} {F : Act} {V : Nat → Value} {I : World → Prop} {w : World} {i : Nat} {o : Oper} (ho : ops[i]? = some o) (hI : I w) (hr : (execOp F.eval o).run P w = .ok (.value (V i)) w := by first | (go_simp; done) | (go_simp; rfl) | (go_simp; simp only [i64_w]; done) | (go_simp; simp only [i64_w]; rfl)) : Step1 P ops F V I w i := by
  unfold Step1
  rw [ho]
  show StepV P o F.eval w (V i) I
  unfold StepV
  rw [hr]
  exact ⟨rfl, hI⟩
/-- A box is read. -/
theorem st_ld {P : Program} {ops : Array Oper} {F : Act} {V : Nat → Value} {I : World → Prop} {w w0 : World} {L : List (Nat × Array Value × Nat)} {g t : Nat} {cs : Array Value} {i : Nat} {o : Oper} {ty : TypeId} {p : Operand} {d : TypeDesc} (ho : ops[i]? = some o) (j : Nat) (HB : Bx w0 w L) (hj : L[j]? = some (g, cs, t)) (hop : o.op = .load ty p)
    (hp : F.eval p = .pointer (some ⟨g, 0, none⟩)) (hu : P.underlying ty = some d) (hst : (match d with | .struct _ | .array _ _ => true | _ => false) = true) (ht : (P.info? ty).map (·.size) = some cs.size) (hv : .agg cs = V i) (hI : I w) : Step1 P ops F V I w i := by
  refine st_v ho hI ?_
  rw [← hv]
  unfold execOp
  simp only [hop, hp, Sem.run_bind, run_agg ty (HB.get j hj) hu hst ht]
  rfl
/-- A call of a Go function. -/
theorem st_call {P : Program} {ops : Array Oper} {F : Act} {V : Nat → Value} {I : World → Prop} {w : World} {i : Nat} {o : Oper} {f : FuncId} {fn : Func} {ars : Array Operand} {ts : Array TypeId} (ho : ops[i]? = some o) (hf : P.funcs[f]? = some fn) (hname : (fn.name == "runtime.NumGoroutine") = false) (hb : fn.body.isSome = true) (args : Array Value)
    (hop : o.op = .call { callee := .value (.func f), args := ars, argTypes := ts }) (h : Calls P f args w fun e w' => e = .returned (V i) ∧ I w') (hargs : ars.map F.eval = args := by simp only [List.map_toArray, List.map_cons, List.map_nil]; rfl) : Step1 P ops F V I w i := by
  unfold Step1
  rw [ho]
  show StepV P o F.eval w (V i) I
  unfold StepV
  have he := enters_ hf hname hb args w
  have hrun : (execOp F.eval o).run P w = .ok (.enter f args) w := by
    unfold execOp
    simp [hop, resolve, Deferred.ofValue, invoke, Act.eval, hargs, he]
  rw [hrun]
  exact h
/-- The table of a region of m simple operations ahead of a last one. q: an operation apart (its slot is read by the last one alone). -/
def detB (ops : Array Oper) (ps : List (Nat × Nat)) (m q : Nat) : Bool :=
  let T := (rtab .any ops).2
  lowB T && T.length == m + 1 && (match T[m]? with | some r => (List.range m).all (fun j => r.1.contains j) | none => false) && ps.all (fun p => decide (p.2 < m + 1) && onceB ps p.1 p.2) && ps.foldl (fun l p => l.set p.2 true) (List.replicate (m + 1) false) == List.replicate m true ++ [false] && (List.range m).all (fun i => i == q || simpleB ops T ps i) && (List.range m).all (fun i => match T[i]? with | some r => !r.1.contains q | none => false)
theorem eval_simple {ops : Array Oper} {ps : List (Nat × Nat)} {T : List (List Nat × List Nat)} {a : Act} {V V2 : Nat → Value} {l : List Bool} {m i q : Nat} {o : Oper} (ho : ops[i]? = some o) (hs : simpleB ops T ps i = true) (hl : lowB T = true) (hi : i < m) (hT : T.length = m + 1)
    (hd : ∀ r, T[i]? = some r → ∀ j ∈ r.1, l.getD j false = true) (hq : ∀ r, T[i]? = some r → q ∉ r.1) (hV : ∀ j, j ≠ q → V j = V2 j) :
    execOp (updA a (slotOf ps) l V).eval o = execOp (updA a (slotOf ps) (List.replicate m true ++ [false]) V2).eval o ∧ o.guard = none ∧ ∃ N, o.dst = some N ∧ onceB ps N i = true := by
  unfold simpleB at hs
  rw [ho] at hs
  simp only [Bool.and_eq_true] at hs
  obtain ⟨⟨⟨hg, hd1⟩, hsel⟩, hops⟩ := hs
  refine ⟨execOp_congr o (fun cs b e => ?_) (fun x hx => ?_), by simpa using hg, ?_⟩
  · rw [e] at hsel; cases hsel
  · have hx' := List.all_eq_true.1 hops x (by simpa using hx)
    cases x with
    | tmp M =>
      simp only at hx'
      cases hM : slotOf ps M with
      | none => rw [updA_old a _ l V M hM, updA_old a _ _ V2 M hM]
      | some j =>
        rw [hM] at hx'
        simp only at hx'
        cases hr : T[i]? with
        | none => rw [hr] at hx'; cases hx'
        | some r =>
          rw [hr] at hx'
          have hj : j ∈ r.1 := by simpa using hx'
          have hjl := hd r hr j hj
          have hjm : j < i := by
            have h2 := List.all_eq_true.1 hl i (List.mem_range.2 (by omega))
            rw [hr] at h2
            exact of_decide_eq_true (List.all_eq_true.1 h2 j hj)
          have hjq : j ≠ q := fun e => hq r hr (e ▸ hj)
          have h3 : (List.replicate m true ++ [false]).getD j false = true := by
            rw [List.getD_eq_getElem?_getD, List.getElem?_append_left (by simp; omega), List.getElem?_replicate, if_pos (by omega)]
            rfl
          unfold updA updT Act.eval
          simp only [Array.getD_eq_getD_getElem?, Array.getElem?_mapIdx, hM, hjl, h3, if_true, hV j hjq]
    | const v => rfl
    | global g => rfl
    | func f => rfl
  · cases hN : o.dst with
    | none => rw [hN] at hd1; cases hd1
    | some N => rw [hN] at hd1; exact ⟨N, rfl, hd1⟩
theorem detB_spec {ops : Array Oper} {ps : List (Nat × Nat)} {m q : Nat} (h : detB ops ps m q = true) : lowB (rtab .any ops).2 = true ∧ (rtab .any ops).2.length = m + 1 ∧ (match (rtab .any ops).2[m]? with | some r => (List.range m).all (fun j => r.1.contains j) | none => false) = true ∧ (ps.all (fun p => decide (p.2 < m + 1) && onceB ps p.1 p.2)) = true ∧
    ps.foldl (fun l p => l.set p.2 true) (List.replicate (m + 1) false) = List.replicate m true ++ [false] ∧ (∀ i, i < m → i ≠ q → simpleB ops (rtab .any ops).2 ps i = true) ∧ (∀ i, i < m → ∀ r, (rtab .any ops).2[i]? = some r → q ∉ r.1) := by
  unfold detB at h
  simp only [Bool.and_eq_true, beq_iff_eq] at h
  obtain ⟨⟨⟨⟨⟨⟨h1, h2⟩, h3⟩, h4⟩, h5⟩, h6⟩, h7⟩ := h
  refine ⟨h1, h2, h3, h4, h5, fun i hi hq => ?_, fun i hi r hr hc => ?_⟩
  · have := List.all_eq_true.1 h6 i (List.mem_range.2 hi)
    rw [Bool.or_eq_true] at this
    rcases this with e | e
    · exact absurd (by simpa using e) hq
    · exact e
  · have := List.all_eq_true.1 h7 i (List.mem_range.2 hi)
    rw [hr] at this
    simp [hc] at this
theorem full_act {ps : List (Nat × Nat)} {m : Nat} {a : Act} {V : Nat → Value} (hps : (ps.all (fun p => decide (p.2 < m + 1) && onceB ps p.1 p.2)) = true) (hfold : ps.foldl (fun l p => l.set p.2 true) (List.replicate (m + 1) false) = List.replicate m true ++ [false]) :
    putAll a (ps.map (fun p => (p.1, V p.2))) = updA a (slotOf ps) (List.replicate m true ++ [false]) V := by
  rw [← updA_start a (slotOf ps) (m + 1) V, putAll_upd a (slotOf ps) V ps _ (fun p hp => ?_), hfold, updA_start]
  have := List.all_eq_true.1 hps p hp
  rw [Bool.and_eq_true] at this
  obtain ⟨h1, h2⟩ := this
  exact ⟨by simpa using h1, (once_slot h2).1, (once_slot h2).2⟩
section
variable {P : Program} {ops : Array Oper} {Q : Exit → Act → World → Prop} {a F : Act} {w w0 : World} {L : List (Nat × Array Value × Nat)} {id : Nat}
/-- A step of a simple operation, of any act that has come so far. -/
theorem step_simple {I : World → Prop} {K' : Act → World → Prop} {ps : List (Nat × Nat)} {V V2 : Nat → Value} {l : List Bool} {m i q : Nat} {w' : World} (hB : detB ops ps m q = true) (hi : i < m) (hiq : i ≠ q) (hln : l.length = m + 1)
    (hd : ∀ r, (rtab .any ops).2[i]? = some r → ∀ j ∈ r.1, l.getD j false = true) (hV : ∀ j, j ≠ q → V j = V2 j) (hF : putAll a (ps.map (fun p => (p.1, V2 p.2))) = F) (hst : Step1 P ops F V2 I w' i)
    (hK : ∀ w1, I w1 → K' (updA a (slotOf ps) (l.set i true) V) w1) : wpOp P ops Q i K' (updA a (slotOf ps) l V) w' := by
  obtain ⟨h1, h2, h3, h4, h5, h6, h7⟩ := detB_spec hB
  cases ho : ops[i]? with
  | none => unfold Step1 at hst; rw [ho] at hst; exact hst.elim
  | some o =>
    obtain ⟨hev, hg, N, hN, hon⟩ := eval_simple (a := a) ho (h6 i hi hiq) h1 hi h2 hd (h7 i hi) hV
    obtain ⟨q1, q2⟩ := once_slot hon
    rw [← full_act h4 h5, hF] at hev
    refine wpOp_step ho (fun K hKK => ?_)
    have hw : Region.wanted o (yielded ops (updA a (slotOf ps) l V).tmps) = true := by
      unfold Region.wanted
      rw [hg]
    rw [if_pos hw]
    unfold Oper.wp
    rw [hev]
    unfold Step1 at hst
    rw [ho] at hst
    replace hst : StepV P o F.eval w' (V2 i) I := hst
    unfold StepV at hst
    have hput : ∀ w1, I w1 → K ((updA a (slotOf ps) l V).put o.dst (V2 i)) w1 := fun w1 h => by
      have e : (updA a (slotOf ps) l V).put o.dst (V2 i) = updA a (slotOf ps) (l.set i true) V := by
        rw [hN, ← hV i hiq]; exact updA_put_same a _ l V i N (by omega) q1 q2
      rw [e]
      exact hKK _ _ (hK w1 h)
    generalize (execOp F.eval o).run P w' = R at hst ⊢
    cases R with
    | halt x w1 => exact hst.elim
    | ok n w1 =>
      cases n with
      | value u =>
        obtain ⟨rfl, h⟩ := hst
        exact hput w1 h
      | enter f args =>
        refine Calls.mono hst (fun e w2 he => ?_)
        obtain ⟨rfl, h⟩ := he
        exact hput w2 h
      | _ => exact hst.elim
/-- The last operation writes a box. -/
theorem last_store {g t m : Nat} {cs cs' : Array Value} {ty : TypeId} {p v : Operand} {u : Value} {seg : List Value} {o : Oper} (i j : Nat) (HB : Bx w0 w L) (hi : L[i]? = some (g, cs, t)) (hm : (rtab .any ops).2.length = m + 1) (ho : ops[m]? = some o) (hop : o.op = .store ty p v) (hgd : o.guard = none) (hN : o.dst = none)
    (hlast : (match (rtab .any ops).2[m]? with | some r => (List.range m).all (fun j => r.1.contains j) | none => false) = true) (hl : lowB (rtab .any ops).2 = true)
    (hp : F.eval p = .pointer (some ⟨g, j, none⟩)) (hv : F.eval v = u) (hu : u.cells.toList = seg) (ht : (P.info? ty).map (·.size) = some seg.length) (h1 : ∀ q ∈ seg, q.oneCell' = true) (hj : j + seg.length ≤ cs.size) (he : cs'.toList = cs.toList.take j ++ seg ++ cs.toList.drop (j + seg.length))
    (h : ∀ w1, Bx w0 w1 (L.set i (g, cs', t)) → Q .normal F w1) : wpAnyLast P .any ops Q (fun _ => True) [] 1 (List.replicate m true ++ [false]).toArray F w := by
  have hsz : ops.size = m + 1 := by rw [← hm, rtab_length]
  have hlow : ∀ r, (rtab .any ops).2[m]? = some r → ∀ k ∈ r.1, k < m := fun r hr k hk => by
    have h2 := List.all_eq_true.1 hl m (List.mem_range.2 (by omega))
    rw [hr] at h2
    exact of_decide_eq_true (List.all_eq_true.1 h2 k hk)
  have hready : Region.ready .any ops (List.replicate m true ++ [false]).toArray = [m] := by
    rw [ready_eq]
    unfold readyT
    rw [hm, List.range_succ, List.filter_append]
    have e1 : (List.range m).filter (readyAt (rtab .any ops).2 (List.replicate m true ++ [false]).toArray.toList) = [] := by
      refine List.filter_eq_nil_iff.2 (fun k hk => ?_)
      have hkm := List.mem_range.1 hk
      unfold readyAt
      rw [List.getD_eq_getElem?_getD, List.getElem?_append_left (by simp; omega), List.getElem?_replicate, if_pos hkm]
      simp
    have e2 : readyAt (rtab .any ops).2 (List.replicate m true ++ [false]).toArray.toList m = true := by
      unfold readyAt
      cases hr : (rtab .any ops).2[m]? with
      | none => rw [hr] at hlast; cases hlast
      | some r =>
        simp only [List.getD_eq_getElem?_getD, Bool.and_eq_true]
        refine ⟨by simp, List.all_eq_true.2 (fun k hk => ?_)⟩
        have := hlow r hr k hk
        rw [List.getElem?_append_left (by simp; omega), List.getElem?_replicate, if_pos this]
        rfl
    rw [e1, List.filter_cons, e2]
    rfl
  refine wpAnyLast_ready hready (by simp) (AllReadyL.cons ho (by simp) (fun K hK => ?_) AllReadyL.nil)
  have hrun : (execOp F.eval o).run P w = .ok .skip (w.setCells g j seg) := by
    unfold execOp
    simp only [hop, hp, hv, Sem.run_bind, run_store_run ty u seg (HB.get i hi) hu ht hj h1]
    rfl
  rw [if_pos (by unfold Region.wanted; rw [hgd])]
  unfold Oper.wp
  rw [hrun]
  show K (F.put o.dst undef) _
  rw [hN]
  · refine hK.out _ _ trivial (fun _ => ?_)
    refine wpAnyLast_done ?_ (h _ (HB.put i hi j hj he)) 0
    rw [ready_eq]
    unfold readyT
    refine List.filter_eq_nil_iff.2 (fun k hk => ?_)
    have hkm := List.mem_range.1 hk
    rw [hm] at hkm
    unfold readyAt
    rw [Array.toList_setIfInBounds, List.getD_eq_getElem?_getD]
    by_cases c : m = k
    · subst c
      rw [List.getElem?_set_self (by simp)]
      simp
    · rw [List.getElem?_set_ne c, List.getElem?_append_left (by simp; omega), List.getElem?_replicate, if_pos (by omega)]
      simp
/-- A REGION OF m SIMPLE OPERATIONS, IN WHATEVER ORDER, AND A STORE INTO A BOX BEHIND THEM. F: the act when all have come up. -/
theorem detS_ {g t : Nat} {cs cs' : Array Value} {u : Value} {seg : List Value} (m : Nat) (ps : List (Nat × Nat)) (V : Nat → Value) (ty : TypeId) (p v : Operand) (hF : putAll a (ps.map (fun p => (p.1, V p.2))) = F) (hm1 : P.follows .mixedOrders = true) (hB : detB ops ps m m = true) (HB : Bx w0 w L)
    (hstep : ∀ (I : World → Prop), (∀ w w1, I w → Below w.heap.size w w1 → I w1) → ∀ w', I w' → Bx w0 w' L → StepsV P ops F V I w' (List.range m))
    (i j : Nat) (hi : L[i]? = some (g, cs, t)) (hlo : (ops[m]?).map (fun o => (o.op, o.guard, o.dst)) = some (.store ty p v, none, none))
    (hp : F.eval p = .pointer (some ⟨g, j, none⟩)) (hv : F.eval v = u) (hu : u.cells.toList = seg) (ht : (P.info? ty).map (·.size) = some seg.length) (h1 : ∀ q ∈ seg, q.oneCell' = true) (hj : j + seg.length ≤ cs.size) (he : cs'.toList = cs.toList.take j ++ seg ++ cs.toList.drop (j + seg.length))
    (h : ∀ w1, Bx w0 w1 (L.set i (g, cs', t)) → Q .normal F w1) : (Code.region id ops true).wp P Q a w := by
  obtain ⟨h1', h2, h3, h4, h5, h6, h7⟩ := detB_spec hB
  obtain ⟨o, ho, hlo⟩ := Option.map_eq_some_iff.1 hlo
  simp only [Prod.mk.injEq] at hlo
  obtain ⟨hop, hgd, hN⟩ := hlo
  have hsz : ops.size = m + 1 := by rw [← h2, rtab_length]
  refine start_ (S := fun _ => True) (ds := []) (n := m + 1) (List.replicate (m + 1) false).toArray hm1 hsz (by simp) trivial (fun _ => ?_)
  refine last_inv (fun _ => trivial) rfl h1' m h2 h3 (fun l a' w' => a' = updA a (slotOf ps) l V ∧ Bx w0 w' L) ?_ ?_ m _ a w.drew (by simp) (by simp [List.getD_eq_getElem?_getD]) (by simp) ⟨(updA_start a _ (m + 1) V).symm, HB.drew⟩
  · rintro a' w' ⟨rfl, hI⟩
    rw [← full_act h4 h5, hF]
    exact last_store i j hI hi h2 ho hop hgd hN h3 h1' hp hv hu ht h1 hj he h
  · rintro l a' w' hn ⟨rfl, hI⟩ k hk hf hd
    exact step_simple hB hk (by omega) hn hd (fun _ _ => rfl) hF ((hstep (fun w' => Bx w0 w' L) (fun _ _ q r => q.below r) w' hI hI).at k (List.mem_range.2 hk)) (fun w1 q => ⟨rfl, q⟩)
/-- THE SAME, one of the operations (q) making a box, whose pointer the last one alone reads; the last one writes it. -/
theorem detA_ {cs cs' : Array Value} {u : Value} {seg : List Value} {G : Nat → Act} (m q : Nat) (ps : List (Nat × Nat)) (V : Nat → Value) (el ty : TypeId) (p v : Operand) (hG : ∀ g, putAll a (ps.map (fun p => (p.1, setV V q (.pointer (some ⟨g, 0, none⟩)) p.2))) = G g) (hm1 : P.follows .mixedOrders = true) (hB : detB ops ps m q = true) (HB : Bx w0 w L)
    (hq : q < m) (hoq : (ops[q]?).map (fun o => (o.op, o.guard, match o.dst with | some N => onceB ps N q | none => false)) = some (.alloc el, none, true)) (hz : ((P.info? el).map (·.zero) = some (some (.agg cs))) ∧ (Value.agg cs).cells = cs)
    (hstep : ∀ (I : World → Prop), (∀ w w1, I w → Below w.heap.size w w1 → I w1) → ∀ w', I w' → Bx w0 w' L → StepsV P ops (G 0) (setV V q (.pointer (some ⟨0, 0, none⟩))) I w' ((List.range m).filter (fun k => k != q)))
    (j : Nat) (hlo : (ops[m]?).map (fun o => (o.op, o.guard, o.dst)) = some (.store ty p v, none, none))
    (hp : ∀ g, (G g).eval p = .pointer (some ⟨g, j, none⟩)) (hv : ∀ g, (G g).eval v = u) (hu : u.cells.toList = seg) (ht : (P.info? ty).map (·.size) = some seg.length) (h1 : ∀ q ∈ seg, q.oneCell' = true) (hj : j + seg.length ≤ cs.size) (he : cs'.toList = cs.toList.take j ++ seg ++ cs.toList.drop (j + seg.length))
    (h : ∀ g w1, Bx w0 w1 ((g, cs', el) :: L) → Q .normal (G g) w1) : (Code.region id ops true).wp P Q a w := by
  obtain ⟨h1', h2, h3, h4, h5, h6, h7⟩ := detB_spec hB
  obtain ⟨o, ho, hlo⟩ := Option.map_eq_some_iff.1 hlo
  obtain ⟨oq, hoq, hqq⟩ := Option.map_eq_some_iff.1 hoq
  simp only [Prod.mk.injEq] at hlo hqq
  obtain ⟨hop, hgd, hN⟩ := hlo
  obtain ⟨hqop, hqg, hqd⟩ := hqq
  have hsz : ops.size = m + 1 := by rw [← h2, rtab_length]
  refine start_ (S := fun _ => True) (ds := []) (n := m + 1) (List.replicate (m + 1) false).toArray hm1 hsz (by simp) trivial (fun _ => ?_)
  refine last_inv (fun _ => trivial) rfl h1' m h2 h3 (fun l a' w' => (l.getD q false = false ∧ a' = updA a (slotOf ps) l (setV V q (.pointer (some ⟨0, 0, none⟩))) ∧ Bx w0 w' L) ∨ (l.getD q false = true ∧ ∃ g, a' = updA a (slotOf ps) l (setV V q (.pointer (some ⟨g, 0, none⟩))) ∧ Bx w0 w' ((g, cs, el) :: L))) ?_ ?_ m _ a w.drew (by simp) (by simp [List.getD_eq_getElem?_getD]) (by simp) (.inl ⟨by show (List.replicate (m + 1) false).getD q false = false; rw [List.getD_eq_getElem?_getD, List.getElem?_replicate]; split <;> rfl, (updA_start a _ (m + 1) _).symm, HB.drew⟩)
  · rintro a' w' (⟨hl, _⟩ | ⟨_, g, rfl, hI⟩)
    · exfalso
      rw [List.getD_eq_getElem?_getD, List.getElem?_append_left (by simp; omega), List.getElem?_replicate, if_pos hq] at hl
      cases hl
    · rw [← full_act h4 h5, hG g]
      exact last_store (i := 0) (j := j) hI rfl h2 ho hop hgd hN h3 h1' (hp g) (hv g) hu ht h1 hj he (h g)
  · rintro l a' w' hn hI k hk hf hd
    have hff : l.getD k false = false := by
      have hi' : k < l.length := by omega
      rw [List.getD_eq_getElem?_getD, List.getElem?_eq_getElem hi'] at hf ⊢
      simpa using hf
    by_cases c : k = q
    · subst c
      rcases hI with ⟨_, rfl, hI⟩ | ⟨hl, _⟩
      · refine wpOp_step hoq (fun K hKK => ?_)
        cases hN' : oq.dst with
        | none => rw [hN'] at hqd; cases hqd
        | some N =>
          rw [hN'] at hqd
          obtain ⟨q1, q2⟩ := once_slot hqd
          obtain ⟨inf, hinf, hzero⟩ := Option.map_eq_some_iff.1 hz.1
          refine value_ (w1 := w'.alloc (.cells cs el (0, 0))) (v := .pointer (some ⟨w'.heap.size, 0, none⟩)) (by unfold Region.wanted; rw [hqg]) hN' ?_ (hKK _ _ (.inr ⟨by rw [List.getD_eq_getElem?_getD, List.getElem?_set_self (by omega)]; rfl, w'.heap.size, ?_, hI.new rfl (blk_new _ _) (below_alloc (Below.refl _ _) _)⟩))
          · unfold execOp
            simp [hqop, Instr.alloc, zeroValue, typeInfo, hinf, hzero, newVar, newRow, hz.2]
          · rw [updA_put a _ l _ k N _ (by omega) q1 q2]
            congr 1
            funext j
            unfold setV
            split <;> rfl
      · rw [hff] at hl; cases hl
    · rcases hI with ⟨hl, rfl, hI⟩ | ⟨hl, g, rfl, hI⟩
      · exact step_simple hB hk c hn hd (fun _ _ => rfl) (hG 0) ((hstep (fun w' => Bx w0 w' L) (fun _ _ q r => q.below r) w' hI hI).at k (List.mem_filter.2 ⟨List.mem_range.2 hk, by simpa using c⟩)) (fun w1 r => .inl ⟨by rw [List.getD_eq_getElem?_getD, List.getElem?_set_ne c, ← List.getD_eq_getElem?_getD]; exact hl, rfl, r⟩)
      · exact step_simple hB hk c hn hd (fun j hj => by rw [setV_other V _ hj, setV_other V _ hj]) (hG 0) ((hstep (fun w' => Bx w0 w' ((g, cs, el) :: L)) (fun _ _ q r => q.below r) w' hI hI.pop).at k (List.mem_filter.2 ⟨List.mem_range.2 hk, by simpa using c⟩)) (fun w1 r => .inr ⟨by rw [List.getD_eq_getElem?_getD, List.getElem?_set_ne c, ← List.getD_eq_getElem?_getD]; exact hl, g, rfl, r⟩)
end
theorem zip_map (ns : List Nat) (vs : List Value) (h : ns.length = vs.length) (V : Nat → Value) (hV : ∀ i, i < vs.length → V i = vs.getD i undef) : ns.zipIdx.map (fun p => (p.1, V p.2)) = ns.zip vs := by
  refine List.ext_getElem (by simp [h]) (fun i h1 h2 => ?_)
  have hi : i < vs.length := by simp at h2; omega
  rw [List.getElem_map, List.getElem_zipIdx, List.getElem_zip]
  simp only [Nat.zero_add, hV i hi, List.getD_eq_getElem?_getD, List.getElem?_eq_getElem hi, Option.getD_some]
section
variable {P : Program} {ops : Array Oper} {Q : Exit → Act → World → Prop} {a F : Act} {w w0 : World} {L : List (Nat × Array Value × Nat)} {id : Nat}
/-- THE SAME BY LISTS: ns the slots that the operations fill, vs what they yield. -/
theorem regS_ {g t : Nat} {cs cs' : Array Value} {u : Value} {seg : List Value} (ns : List Nat) (vs : List Value) (ty : TypeId) (p v : Operand) (hF : putAll a (ns.zip vs) = F) (hn : ns.length = vs.length) (hm1 : P.follows .mixedOrders = true) (hB : detB ops ns.zipIdx ns.length ns.length = true) (HB : Bx w0 w L)
    (hstep : ∀ (I : World → Prop), (∀ w w1, I w → Below w.heap.size w w1 → I w1) → ∀ w', I w' → Bx w0 w' L → StepsV P ops F (fun i => vs.getD i undef) I w' (List.range ns.length))
    (i j : Nat) (hi : L[i]? = some (g, cs, t)) (hlo : (ops[ns.length]?).map (fun o => (o.op, o.guard, o.dst)) = some (.store ty p v, none, none))
    (hp : F.eval p = .pointer (some ⟨g, j, none⟩)) (hv : F.eval v = u) (hu : u.cells.toList = seg) (ht : (P.info? ty).map (·.size) = some seg.length) (h1 : ∀ q ∈ seg, q.oneCell' = true) (hj : j + seg.length ≤ cs.size) (he : cs'.toList = cs.toList.take j ++ seg ++ cs.toList.drop (j + seg.length))
    (h : ∀ w1, Bx w0 w1 (L.set i (g, cs', t)) → Q .normal F w1) : (Code.region id ops true).wp P Q a w :=
  detS_ ns.length ns.zipIdx (fun i => vs.getD i undef) ty p v (by rw [zip_map ns vs hn _ (fun _ _ => rfl)]; exact hF) hm1 hB HB hstep i j hi hlo hp hv hu ht h1 hj he h
theorem regA_ {cs cs' : Array Value} {u : Value} {seg : List Value} {G : Nat → Act} (q : Nat) (ns : List Nat) (vs : List Value) (el ty : TypeId) (p v : Operand) (hG : ∀ g, putAll a (ns.zip (vs.set q (.pointer (some ⟨g, 0, none⟩)))) = G g) (hn : ns.length = vs.length) (hm1 : P.follows .mixedOrders = true) (hB : detB ops ns.zipIdx ns.length q = true) (HB : Bx w0 w L)
    (hq : q < ns.length) (hoq : (ops[q]?).map (fun o => (o.op, o.guard, match o.dst with | some N => onceB ns.zipIdx N q | none => false)) = some (.alloc el, none, true)) (hz : ((P.info? el).map (·.zero) = some (some (.agg cs))) ∧ (Value.agg cs).cells = cs)
    (hstep : ∀ (I : World → Prop), (∀ w w1, I w → Below w.heap.size w w1 → I w1) → ∀ w', I w' → Bx w0 w' L → StepsV P ops (G 0) (setV (fun i => vs.getD i undef) q (.pointer (some ⟨0, 0, none⟩))) I w' ((List.range ns.length).filter (fun k => k != q)))
    (j : Nat) (hlo : (ops[ns.length]?).map (fun o => (o.op, o.guard, o.dst)) = some (.store ty p v, none, none))
    (hp : ∀ g, (G g).eval p = .pointer (some ⟨g, j, none⟩)) (hv : ∀ g, (G g).eval v = u) (hu : u.cells.toList = seg) (ht : (P.info? ty).map (·.size) = some seg.length) (h1 : ∀ q ∈ seg, q.oneCell' = true) (hj : j + seg.length ≤ cs.size) (he : cs'.toList = cs.toList.take j ++ seg ++ cs.toList.drop (j + seg.length))
    (h : ∀ g w1, Bx w0 w1 ((g, cs', el) :: L) → Q .normal (G g) w1) : (Code.region id ops true).wp P Q a w :=
  detA_ ns.length q ns.zipIdx (fun i => vs.getD i undef) el ty p v (fun g => by
    rw [← hG g, zip_map ns (vs.set q (.pointer (some ⟨g, 0, none⟩))) (by simpa using hn) _ (fun i hi => ?_)]
    unfold setV
    by_cases c : i = q
    · subst c; rw [if_pos rfl, List.getD_eq_getElem?_getD, List.getElem?_set_self (by omega)]; rfl
    · rw [if_neg c, List.getD_eq_getElem?_getD, List.getElem?_set_ne (Ne.symm c), ← List.getD_eq_getElem?_getD]) hm1 hB HB hq hoq hz hstep j hlo hp hv hu ht h1 hj he h
end
def cs5 (v : Int × Int × Int × Int × Int) : Array Value := #[.int .i64 v.1, .int .i64 v.2.1, .int .i64 v.2.2.1, .int .i64 v.2.2.2.1, .int .i64 v.2.2.2.2]
def csI (x : S96) : Array Value := #[.int .i64 x.f0, .int .i64 x.f1]
theorem one5 (v : Int × Int × Int × Int × Int) : ∀ q ∈ (cs5 v).toList, q.oneCell' = true := by
  intro q hq
  simp only [cs5, List.mem_cons, List.not_mem_nil, or_false] at hq
  rcases hq with rfl | rfl | rfl | rfl | rfl <;> rfl
theorem one2 (v : S96) : ∀ q ∈ (csI v).toList, q.oneCell' = true := by
  intro q hq
  simp only [csI, List.mem_cons, List.not_mem_nil, or_false] at hq
  rcases hq with rfl | rfl <;> rfl
theorem cOne (n : Int) (b : Bool) (r : Int × Int × Int × Int × Int) (w : World) (h : spec_l05One.f n b = some r) : Calls Try.prog 218 #[.int .i64 n, .bool b] w fun e w' => e = .returned (.agg (cs5 r)) ∧ Below w.heap.size w w' := spec_l05One.calls n b _ _ _ _ _ w h
theorem cBeh (a b r : Int × Int × Int × Int × Int) (w : World) (h : spec_l05Behind.f a.1 a.2.1 a.2.2.1 a.2.2.2.1 a.2.2.2.2 b.1 b.2.1 b.2.2.1 b.2.2.2.1 b.2.2.2.2 = some r) : Calls Try.prog 220 #[.agg (cs5 a), .agg (cs5 b)] w fun e w' => e = .returned (.agg (cs5 r)) ∧ Below w.heap.size w w' := spec_l05Behind.calls _ _ _ _ _ _ _ _ _ _ _ _ _ _ _ w h
theorem cEit (a b r : Int × Int × Int × Int × Int) (w : World) (h : spec_l05Either.f a.1 a.2.1 a.2.2.1 a.2.2.2.1 a.2.2.2.2 b.1 b.2.1 b.2.2.1 b.2.2.2.1 b.2.2.2.2 = some r) : Calls Try.prog 221 #[.agg (cs5 a), .agg (cs5 b)] w fun e w' => e = .returned (.agg (cs5 r)) ∧ Below w.heap.size w w' := spec_l05Either.calls _ _ _ _ _ _ _ _ _ _ _ _ _ _ _ w h
theorem cTim (k : Nat) (a r : Int × Int × Int × Int × Int) (n : Int) (w : World) (h : spec_l05Times.f k a.1 a.2.1 a.2.2.1 a.2.2.2.1 a.2.2.2.2 n = some r) : Calls Try.prog 222 #[.agg (cs5 a), .int .i64 n] w fun e w' => e = .returned (.agg (cs5 r)) ∧ Below w.heap.size w w' := spec_l05Times.calls k _ _ _ _ _ n _ _ _ _ _ w h
theorem info5 : (Try.prog.info? 144).map (·.size) = some 5 := by kernel_rfl
section
variable {ops : Array Oper} {rest : List Oper} {o : Oper} {a : Act} {Q : Exit → Act → World → Prop} {w0 W : World} {L : List (Nat × Array Value × Nat)} {g : Nat}
/-- A summary's box is written. -/
theorem st5 {p x : Operand} {v : Int × Int × Int × Int × Int} (z : Int × Int × Int × Int × Int) (i : Nat) (HB : Bx w0 W L) (hi : L[i]? = some (g, cs5 v, 144)) (ho : o.op = .store 144 p x) (hgd : o.guard = none) (hN : o.dst = none) (hp : a.eval p = .pointer (some ⟨g, 0, none⟩)) (hv : a.eval x = .agg (cs5 z))
    (h : ∀ w1, Aside0 (Bx w0 w1 (L.set i (g, cs5 z, 144))) → wpList Try.prog ops Q rest a w1) : wpList Try.prog ops Q (o :: rest) a W :=
  stE (cs' := cs5 z) (u := .agg (cs5 z)) (seg := (cs5 z).toList) i 0 HB hi ho hgd hN hp hv rfl info5 (one5 z) (Nat.le_refl 5) rfl (fun w1 q => h w1 ⟨q⟩)
/-- A summary's box is read. -/
theorem ld5 {p : Operand} {v : Int × Int × Int × Int × Int} {N : Tmp} (hd : o.dst = some N) (i : Nat) (HB : Bx w0 W L) (hi : L[i]? = some (g, cs5 v, 144)) (ho : o.op = .load 144 p) (hgd : o.guard = none) (hp : a.eval p = .pointer (some ⟨g, 0, none⟩))
    (h : wpList Try.prog ops Q rest (a.put o.dst (.agg (cs5 v))) W) : wpList Try.prog ops Q (o :: rest) a W :=
  ldE hd i HB hi ho hgd hp Try.underlying144 rfl info5 h
/-- A new box for a summary. -/
theorem bx5 {N : Tmp} (hd : o.dst = some N) (hgd : o.guard = none) (ho : o.op = .alloc 144) (HB : Bx w0 W L) (h : ∀ g w1, Aside0 (Bx w0 w1 ((g, cs5 (0, 0, 0, 0, 0), 144) :: L)) → wpList Try.prog ops Q rest (a.put o.dst (.pointer (some ⟨g, 0, none⟩))) w1) : wpList Try.prog ops Q (o :: rest) a W := by
  refine bxE (cs := cs5 (0, 0, 0, 0, 0)) (t := 144) hd hgd HB ?_ (fun g w1 q => h g w1 ⟨q⟩)
  have hi : (Try.prog.info? 144).map (·.zero) = some (some (.agg (cs5 (0, 0, 0, 0, 0)))) := by kernel_rfl
  obtain ⟨inf, hinf, hzero⟩ := Option.map_eq_some_iff.1 hi
  unfold execOp
  simp [ho, Instr.alloc, zeroValue, typeInfo, hinf, hzero, newVar, newRow]
  rfl
/-- A call that gives a value, and leaves what was. -/
theorem go5 {f : FuncId} {fn : Func} {ars : Array Operand} {ts : Array TypeId} (N : Option Tmp) (hd : o.dst = N) (hg : o.guard = none) (hf : Try.prog.funcs[f]? = some fn) (hname : (fn.name == "runtime.NumGoroutine") = false) (hb : fn.body.isSome = true) (args : Array Value) (v : Value)
    (hop : o.op = .call { callee := .value (.func f), args := ars, argTypes := ts }) (HB : Bx w0 W L) (hc : Calls Try.prog f args W fun e w' => e = .returned v ∧ Below W.heap.size W w') (h : ∀ w1, Aside0 (Bx w0 w1 L) → wpList Try.prog ops Q rest (a.put N v) w1) (hargs : ars.map a.eval = args := by simp only [List.map_toArray, List.map_cons, List.map_nil]; rfl) : wpList Try.prog ops Q (o :: rest) a W :=
  goesL_ N hd hg hf hname hb args hop hargs (hc.mono (fun e w' ⟨he, hb⟩ => ⟨v, he, h w' ⟨HB.below hb⟩⟩))
end
/-! ### spec_l05Part: function 170 -/
mutual
def spec_l05Part.l0 : Nat → List (S96) → Int → List (S144) → Int → Int → Int → Int → Int → Int → Option (Int × Int × Int × Int × Int)
  | 0, _, _, _, _, _, _, _, _, _ => none
  | k + 1, x0, x2, x3, x10, x206000, x206001, x206002, x206003, x206004 => if x10 < x2 then (if 0 ≤ x10 then (if x10 < (x0.length : Int) then ((spec_l02Cost.f k ((rd_T96 x0 x10).f0)).bind fun t208 => ((spec_l05One.f t208 (((rd_T96 x0 x10).f0) == 25)).bind fun bt209 => (if ((rd_T96 x0 x10).f0) = 26 then (if 0 ≤ ((rd_T96 x0 x10).f1) then (if ((rd_T96 x0 x10).f1) < (x3.length : Int) then ((spec_l05Behind.f bt209.1 bt209.2.1 bt209.2.2.1 bt209.2.2.2.1 bt209.2.2.2.2 ((rd_T144 x3 ((rd_T96 x0 x10).f1)).f0) ((rd_T144 x3 ((rd_T96 x0 x10).f1)).f1) ((rd_T144 x3 ((rd_T96 x0 x10).f1)).f2) ((rd_T144 x3 ((rd_T96 x0 x10).f1)).f3) ((rd_T144 x3 ((rd_T96 x0 x10).f1)).f4)).bind fun bt216 => ((spec_l05Behind.f x206000 x206001 x206002 x206003 x206004 bt216.1 bt216.2.1 bt216.2.2.1 bt216.2.2.2.1 bt216.2.2.2.2).bind fun bt221 => (spec_l05Part.l0 k x0 x2 x3 (wrap64 (x10 + 1)) bt221.1 bt221.2.1 bt221.2.2.1 bt221.2.2.2.1 bt221.2.2.2.2))) else (none)) else (none)) else (if ((rd_T96 x0 x10).f0) = 21 then ((spec_l04Match.f k x0 x10).bind fun bt226 => ((spec_l05One.f 1 false).bind fun bt229 => (if bt226.1 > 0 then ((spec_l05Part.f k x0 (wrap64 (x10 + 1)) bt226.1 x3).bind fun bt235 => ((spec_l05Behind.f bt235.1 bt235.2.1 bt235.2.2.1 bt235.2.2.2.1 bt235.2.2.2.2 bt229.1 bt229.2.1 bt229.2.2.1 bt229.2.2.2.1 bt229.2.2.2.2).bind fun bt240 => ((spec_l05Part.f k x0 (wrap64 (bt226.1 + 1)) bt226.2.1 x3).bind fun bt245 => ((spec_l05Behind.f bt245.1 bt245.2.1 bt245.2.2.1 bt245.2.2.2.1 bt245.2.2.2.2 bt229.1 bt229.2.1 bt229.2.2.1 bt229.2.2.2.1 bt229.2.2.2.2).bind fun bt250 => ((spec_l05Either.f bt240.1 bt240.2.1 bt240.2.2.1 bt240.2.2.2.1 bt240.2.2.2.2 bt250.1 bt250.2.1 bt250.2.2.1 bt250.2.2.2.1 bt250.2.2.2.2).bind fun bt255 => ((spec_l05Behind.f bt209.1 bt209.2.1 bt209.2.2.1 bt209.2.2.2.1 bt209.2.2.2.2 bt255.1 bt255.2.1 bt255.2.2.1 bt255.2.2.2.1 bt255.2.2.2.2).bind fun bt260 => ((spec_l05Behind.f x206000 x206001 x206002 x206003 x206004 bt260.1 bt260.2.1 bt260.2.2.1 bt260.2.2.2.1 bt260.2.2.2.2).bind fun bt265 => (spec_l05Part.l0 k x0 x2 x3 (wrap64 (bt226.2.1 + 1)) bt265.1 bt265.2.1 bt265.2.2.1 bt265.2.2.2.1 bt265.2.2.2.2)))))))) else ((spec_l05Part.f k x0 (wrap64 (x10 + 1)) bt226.2.1 x3).bind fun bt270 => ((spec_l05Behind.f bt270.1 bt270.2.1 bt270.2.2.1 bt270.2.2.2.1 bt270.2.2.2.2 bt229.1 bt229.2.1 bt229.2.2.1 bt229.2.2.2.1 bt229.2.2.2.2).bind fun bt275 => ((spec_l05One.f 0 false).bind fun bt280 => ((spec_l05Either.f bt275.1 bt275.2.1 bt275.2.2.1 bt275.2.2.2.1 bt275.2.2.2.2 bt280.1 bt280.2.1 bt280.2.2.1 bt280.2.2.2.1 bt280.2.2.2.2).bind fun bt285 => ((spec_l05Behind.f bt209.1 bt209.2.1 bt209.2.2.1 bt209.2.2.2.1 bt209.2.2.2.2 bt285.1 bt285.2.1 bt285.2.2.1 bt285.2.2.2.1 bt285.2.2.2.2).bind fun bt290 => ((spec_l05Behind.f x206000 x206001 x206002 x206003 x206004 bt290.1 bt290.2.1 bt290.2.2.1 bt290.2.2.2.1 bt290.2.2.2.2).bind fun bt295 => (spec_l05Part.l0 k x0 x2 x3 (wrap64 (bt226.2.1 + 1)) bt295.1 bt295.2.1 bt295.2.2.1 bt295.2.2.2.1 bt295.2.2.2.2)))))))))) else (if ((rd_T96 x0 x10).f0) = 24 then ((spec_l04Match.f k x0 x10).bind fun bt300 => ((spec_l05Part.f k x0 (wrap64 (x10 + 1)) bt300.2.1 x3).bind fun bt303 => ((spec_l05One.f 1 false).bind fun bt308 => ((spec_l05Behind.f bt303.1 bt303.2.1 bt303.2.2.1 bt303.2.2.2.1 bt303.2.2.2.2 bt308.1 bt308.2.1 bt308.2.2.1 bt308.2.2.2.1 bt308.2.2.2.2).bind fun bt313 => ((spec_l05Times.f k bt313.1 bt313.2.1 bt313.2.2.1 bt313.2.2.2.1 bt313.2.2.2.2 ((rd_T96 x0 x10).f1)).bind fun bt318 => ((spec_l05Behind.f bt209.1 bt209.2.1 bt209.2.2.1 bt209.2.2.2.1 bt209.2.2.2.2 bt318.1 bt318.2.1 bt318.2.2.1 bt318.2.2.2.1 bt318.2.2.2.2).bind fun bt323 => ((spec_l05Behind.f x206000 x206001 x206002 x206003 x206004 bt323.1 bt323.2.1 bt323.2.2.1 bt323.2.2.2.1 bt323.2.2.2.2).bind fun bt328 => (spec_l05Part.l0 k x0 x2 x3 (wrap64 (bt300.2.1 + 1)) bt328.1 bt328.2.1 bt328.2.2.1 bt328.2.2.2.1 bt328.2.2.2.2)))))))) else ((spec_l05Behind.f x206000 x206001 x206002 x206003 x206004 bt209.1 bt209.2.1 bt209.2.2.1 bt209.2.2.2.1 bt209.2.2.2.2).bind fun bt333 => (spec_l05Part.l0 k x0 x2 x3 (wrap64 (x10 + 1)) bt333.1 bt333.2.1 bt333.2.2.1 bt333.2.2.2.1 bt333.2.2.2.2))))))) else (none)) else (none)) else (some (x206000, x206001, x206002, x206003, x206004))
def spec_l05Part.f : Nat → List (S96) → Int → Int → List (S144) → Option (Int × Int × Int × Int × Int)
  | 0, _, _, _, _ => none
  | k + 1, l0, a1, a2, l3 => (spec_l05One.f 0 false).bind fun bt200 => (spec_l05Part.l0 k l0 a2 l3 a1 bt200.1 bt200.2.1 bt200.2.2.1 bt200.2.2.2.1 bt200.2.2.2.2)
end
theorem spec_l05Part.mono_l : ∀ k, (∀ y0 y1 y2 y3, LeO (spec_l05Part.f k y0 y1 y2 y3) (spec_l05Part.f (k + 1) y0 y1 y2 y3)) ∧ (∀ y0 y1 y2 y3 y4 y5 y6 y7 y8, LeO (spec_l05Part.l0 k y0 y1 y2 y3 y4 y5 y6 y7 y8) (spec_l05Part.l0 (k + 1) y0 y1 y2 y3 y4 y5 y6 y7 y8))
  | 0 => ⟨fun _ _ _ _ r h => by simp [spec_l05Part.f] at h, fun _ _ _ _ _ _ _ _ _ r h => by simp [spec_l05Part.l0] at h⟩
  | k + 1 => by
    obtain ⟨ih0, ih1⟩ := spec_l05Part.mono_l k
    refine ⟨?_, ?_⟩
    · intro y0 y1 y2 y3
      unfold spec_l05Part.f
      repeat' first
      | (with_reducible exact ih0 _ _ _ _)
      | (with_reducible exact ih1 _ _ _ _ _ _ _ _ _)
      | (with_reducible exact spec_l02Cost.mono _ _)
      | (with_reducible exact spec_l04Match.mono _ _ _)
      | (with_reducible exact spec_l05Times.mono _ _ _ _ _ _ _)
      | (with_reducible exact LeO.refl _)
      | (with_reducible exact LeO.none _)
      | (with_reducible refine LeO.ite ?_ ?_)
      | (with_reducible refine LeO.bind ?_ (fun _ => ?_))
      | exact ih0 _ _ _ _
      | exact ih1 _ _ _ _ _ _ _ _ _
      | exact spec_l02Cost.mono _ _
      | exact spec_l04Match.mono _ _ _
      | exact spec_l05Times.mono _ _ _ _ _ _ _
      | exact LeO.none _
      | refine LeO.ite ?_ ?_
      | refine LeO.bind ?_ (fun _ => ?_)
    · intro y0 y1 y2 y3 y4 y5 y6 y7 y8
      unfold spec_l05Part.l0
      repeat' first
      | (with_reducible exact ih0 _ _ _ _)
      | (with_reducible exact ih1 _ _ _ _ _ _ _ _ _)
      | (with_reducible exact spec_l02Cost.mono _ _)
      | (with_reducible exact spec_l04Match.mono _ _ _)
      | (with_reducible exact spec_l05Times.mono _ _ _ _ _ _ _)
      | (with_reducible exact LeO.refl _)
      | (with_reducible exact LeO.none _)
      | (with_reducible refine LeO.ite ?_ ?_)
      | (with_reducible refine LeO.bind ?_ (fun _ => ?_))
      | exact ih0 _ _ _ _
      | exact ih1 _ _ _ _ _ _ _ _ _
      | exact spec_l02Cost.mono _ _
      | exact spec_l04Match.mono _ _ _
      | exact spec_l05Times.mono _ _ _ _ _ _ _
      | exact LeO.none _
      | refine LeO.ite ?_ ?_
      | refine LeO.bind ?_ (fun _ => ?_)
theorem spec_l05Part.mono : ∀ a0 a1 a2 a3 k, LeO (spec_l05Part.f k a0 a1 a2 a3) (spec_l05Part.f (k + 1) a0 a1 a2 a3) := by
  intro a0 a1 a2 a3 k
  obtain ⟨ih0, ih1⟩ := spec_l05Part.mono_l k
  exact ih0 a0 a1 a2 a3
set_option maxHeartbeats 8000000 in
set_option maxRecDepth 100000 in
theorem spec_l05Part.callsV (k : Nat) : ∀ (A0 : Option Addr) (c0 : Nat) (l0 : List (S96)) (a1 : Int) (a2 : Int) (A3 : Option Addr) (c3 : Nat) (l3 : List (S144)) (r : Int × Int × Int × Int × Int) (w : World) (hr0 : Kd.C k96 w A0 l0.length l0) (hc0 : l0.length ≤ c0) (hr3 : Kd.C k144 w A3 l3.length l3) (hc3 : l3.length ≤ c3) (h : spec_l05Part.f k l0 a1 a2 l3 = some r),
    Calls Try.prog 170 #[.slice A0 l0.length c0, .int .i64 a1, .int .i64 a2, .slice A3 l3.length c3] w fun e w' => e = .returned (.agg (cs5 r)) ∧ Below w.heap.size w w' := by
  induction k using Nat.strongRecOn with
  | _ k ih =>
  intro A0 c0 l0 a1 a2 A3 c3 l3 r w hr0 hc0 hr3 hc3 h
  cases k with
  | zero => exact absurd h (by simp [spec_l05Part.f])
  | succ k =>
  simp only [spec_l05Part.f] at h
  obtain ⟨z, hz, H⟩ := Option.bind_eq_some_iff.mp h
  clear h
  have hu144 := Try.underlying144
  have hu96 := Try.underlying96
  have HR0 := Aside0.mk hr0
  have HC0 := Aside0.mk hc0
  have HR3 := Aside0.mk hr3
  have HC3 := Aside0.mk hc3
  have HX := Aside0.mk (Bx.nil w)
  have HZ := Aside0.mk hz
  have H' := Aside0.mk H
  clear H hz hr0 hc0 hr3 hc3
  go_enter Try.func170, Try.ntmps170
  go_wp2_with (first
    | ((with_reducible refine gate_dst (N := 8) rfl ?_); refine bx5 (N := 8) rfl rfl rfl HX.out ?_; clear HX; intro g8 w1 HX)
    | ((with_reducible refine gate_callee (f := 218) rfl ?_); refine go5 (some 20) rfl rfl Try.func218 (by kernel_rfl) rfl #[.int .i64 0, .bool false] _ rfl HX.out (cOne 0 false z _ HZ.out) ?_; clear HX; intro w2 HX)
    | ((with_reducible refine gate_dst (N := 9) rfl ?_); refine bx5 (N := 9) rfl rfl rfl HX.out ?_; clear HX; intro g9 w3 HX)
    | ((with_reducible refine gate_store (t := 144) (p := 9) rfl ?_); refine st5 z 0 HX.out rfl rfl rfl rfl rfl rfl ?_; clear HX; intro w4 HX))
  go_loopg [10] k (fun kq v10 w' => ∃ (x10 : Int) (v : Int × Int × Int × Int × Int), v10 = .int .i64 x10 ∧ Aside0 (spec_l05Part.l0 kq l0 a2 l3 x10 v.1 v.2.1 v.2.2.1 v.2.2.2.1 v.2.2.2.2 = some r) ∧ Aside0 (kq ≤ k) ∧ Aside0 (Bx w w' [(g9, cs5 v, 144), (g8, cs5 (0, 0, 0, 0, 0), 144)]))
  case atStart => exact ⟨a1, z, by first | rfl | (simp; done) | (simp [*]; done), H', ⟨Nat.le_refl _⟩, HX⟩
  case round =>
    clear H' HX
    obtain ⟨x10, v, rfl, HA, HK1, HX⟩ := hrel
    cases gk with
    | zero => exact absurd HA.out (by simp [spec_l05Part.l0])
    | succ k1 =>
    have H := HA.out
    clear HA
    simp only [spec_l05Part.l0] at H
    by_cases c1 : x10 < a2
    case neg =>
      rw [if_neg c1] at H
      have c1b : decide (x10 < a2) = false := decide_eq_false c1
      clear c1
      obtain rfl := Option.some.inj H
      clear H
      go_wp2_with (first
        | ((with_reducible refine gate_dst (N := 119) rfl ?_); refine ld5 (N := 119) rfl 0 HX.out rfl rfl rfl rfl ?_)
        | ((with_reducible refine gate_store (t := 144) (p := 8) rfl ?_); refine st5 v 1 HX.out rfl rfl rfl rfl rfl rfl ?_; clear HX; intro w4 HX))
      refine bodyPost_ret (results_cell_row rfl _ _ g8 144 (cs5 v) (0, 0) _ rfl (HX.out.get 1 rfl) Try.underlying144 rfl (by kernel_rfl)) rfl ?_
      exact ⟨rfl, HX.out.1⟩
    rw [if_pos c1] at H
    have c1b : decide (x10 < a2) = true := decide_eq_true c1
    clear c1
    by_cases c2 : 0 ≤ x10
    case neg => rw [if_neg c2] at H; exact absurd H (by simp)
    rw [if_pos c2] at H
    by_cases c3 : x10 < (l0.length : Int)
    case neg => rw [if_neg c3] at H; exact absurd H (by simp)
    rw [if_pos c3] at H
    obtain ⟨t, ht, H⟩ := Option.bind_eq_some_iff.mp H
    obtain ⟨o, ho, H⟩ := Option.bind_eq_some_iff.mp H
    obtain ⟨ad, e, hx0, hx1⟩ := at_T96 HR0.out x10 c2 c3
    cases e
    obtain ⟨x, hx⟩ : ∃ x, x = rd_T96 l0 x10 := ⟨_, rfl⟩
    rw [← hx] at ht ho H hx0 hx1
    have HXX := Aside0.mk hx
    replace hx0 := (HX.out.1.cell (World.block_lt_of_cell? w _ hx0)).trans hx0
    replace hx1 := (HX.out.1.cell (World.block_lt_of_cell? w _ hx1)).trans hx1
    have p2 := eq_true c2
    have p3 := eq_true c3
    have HT := Aside0.mk ht
    have HO := Aside0.mk ho
    have H' := Aside0.mk H
    clear H ht ho hx c2 c3
    go_wp2_with (first
      | ((with_reducible refine gate_dst (N := 11) rfl ?_); refine bxE (N := 11) (cs := csI z96) (t := 96) rfl rfl HX.out ?hr ?_; (case hr => first | (go_simp; done) | (go_simp; rfl)); intro g11 w5 h1; have n_ := Aside0.mk h1; clear HX h1; have HX := n_; clear n_)
      | ((with_reducible refine gate_store (t := 96) (p := 11) rfl ?_); refine stE (cs' := csI x) (u := .agg (csI x)) (seg := (csI x).toList) 0 0 HX.out rfl rfl rfl rfl rfl rfl rfl (by kernel_rfl) (one2 x) (Nat.le_refl 2) rfl ?_; intro w6 h1; have n_ := Aside0.mk h1; clear HX h1; have HX := n_; clear n_))
    refine regA_ 7 [31, 32, 33, 34, 35, 36, 37, 12] [.pointer (some ⟨g11, 0, none⟩), .int .i64 x.f0, .int .i64 t, .pointer (some ⟨g11, 0, none⟩), .int .i64 x.f0, .bool (x.f0 == 25), .agg (cs5 o), undef] 144 144 (.tmp 12) (.tmp 37) (G := ?G) ?hG rfl (by kernel_rfl) (by kernel_rfl) HX.out (by decide) rfl ⟨by kernel_rfl, rfl⟩ ?st (cs := cs5 (0, 0, 0, 0, 0)) (cs' := cs5 o) (u := .agg (cs5 o)) (seg := (cs5 o).toList) 0 rfl ?hp ?hv rfl info5 (one5 o) (Nat.le_refl 5) rfl ?nx
    case hG => intro g; simp only [putAll, List.zip_cons_cons, List.zip_nil_left, Act.put, List.setIfInBounds_toArray, List.set_cons_zero, List.set_cons_succ]; rfl
    case hp => intro g; rfl
    case hv => intro g; rfl
    case st =>
      intro I hI w' h0 hX
      have k0 : w'.cell? ⟨g11, 0, none⟩ = some (.int .i64 x.f0) := (blk_cell (hX.get 0 rfl) 0).trans rfl
      refine ⟨st_v rfl h0, st_v rfl h0, st_call rfl Try.func219 (by kernel_rfl) rfl #[.int .i64 x.f0] rfl ?c2, st_v rfl h0, st_v rfl h0, st_v rfl h0, st_call rfl Try.func218 (by kernel_rfl) rfl #[.int .i64 t, .bool (x.f0 == 25)] rfl ?c6, trivial⟩
      case c2 => exact (spec_l02Cost.calls k1 x.f0 t _ HT.out).mono (fun e w1 q => ⟨q.1, hI _ _ h0 q.2.below⟩)
      case c6 => exact (cOne t (x.f0 == 25) o _ HO.out).mono (fun e w1 q => ⟨q.1, hI _ _ h0 q.2⟩)
    intro g12 w7 h1
    have n_ := Aside0.mk h1
    clear HX h1
    have HX := n_
    clear n_
    have H := H'.out
    clear H'
    by_cases c26 : x.f0 = 26
    · rw [if_pos c26] at H
      by_cases c4 : 0 ≤ x.f1
      case neg => rw [if_neg c4] at H; exact absurd H (by simp)
      rw [if_pos c4] at H
      by_cases c5 : x.f1 < (l3.length : Int)
      case neg => rw [if_neg c5] at H; exact absurd H (by simp)
      rw [if_pos c5] at H
      obtain ⟨y, hy, H⟩ := Option.bind_eq_some_iff.mp H
      obtain ⟨b, hb, H⟩ := Option.bind_eq_some_iff.mp H
      obtain ⟨ad3, e, m0, m1, m2, m3, m4⟩ := at_T144 HR3.out x.f1 c4 c5
      cases e
      obtain ⟨s, hs⟩ : ∃ s : Int × Int × Int × Int × Int, s = ((rd_T144 l3 x.f1).f0, (rd_T144 l3 x.f1).f1, (rd_T144 l3 x.f1).f2, (rd_T144 l3 x.f1).f3, (rd_T144 l3 x.f1).f4) := ⟨_, rfl⟩
      have hy' : spec_l05Behind.f o.1 o.2.1 o.2.2.1 o.2.2.2.1 o.2.2.2.2 s.1 s.2.1 s.2.2.1 s.2.2.2.1 s.2.2.2.2 = some y := by rw [hs]; exact hy
      have hm : ∀ W, Below w.heap.size w W → W.cell? (ad3.add (x.f1.toNat * 5)) = some (.int .i64 s.1) ∧ W.cell? ⟨(ad3.add (x.f1.toNat * 5)).block, (ad3.add (x.f1.toNat * 5)).off + 1, none⟩ = some (.int .i64 s.2.1) ∧ W.cell? ⟨(ad3.add (x.f1.toNat * 5)).block, (ad3.add (x.f1.toNat * 5)).off + 2, none⟩ = some (.int .i64 s.2.2.1) ∧ W.cell? ⟨(ad3.add (x.f1.toNat * 5)).block, (ad3.add (x.f1.toNat * 5)).off + 3, none⟩ = some (.int .i64 s.2.2.2.1) ∧ W.cell? ⟨(ad3.add (x.f1.toNat * 5)).block, (ad3.add (x.f1.toNat * 5)).off + 4, none⟩ = some (.int .i64 s.2.2.2.2) := fun W hW => by
        rw [hs]
        exact ⟨(hW.cell (World.block_lt_of_cell? w _ m0)).trans m0, (hW.cell (World.block_lt_of_cell? w _ m1)).trans m1, (hW.cell (World.block_lt_of_cell? w _ m2)).trans m2, (hW.cell (World.block_lt_of_cell? w _ m3)).trans m3, (hW.cell (World.block_lt_of_cell? w _ m4)).trans m4⟩
      have HM := Aside0.mk hm
      have HY := Aside0.mk hy'
      have HB := Aside0.mk hb
      have H' := Aside0.mk H
      have d26 : (x.f0 == 26) = true := beq_iff_eq.mpr c26
      have q4 := eq_true c4
      have q5 := eq_true c5
      have k0 : w7.cell? ⟨g11, 0, none⟩ = some (.int .i64 x.f0) := (blk_cell (HX.out.get 1 rfl) 0).trans rfl
      clear H hb hy hy' c26 m0 m1 m2 m3 m4 hs hm c4 c5
      go_wp2
      refine regS_ [42, 43, 44, 45, 46, 47, 48] [.agg (cs5 o), .slice (some ad3) l3.length c3, .pointer (some ⟨g11, 1, none⟩), .int .i64 x.f1, .pointer (some (ad3.add (x.f1.toNat * 5))), .agg (cs5 s), .agg (cs5 y)] 144 (.tmp 12) (.tmp 48) (F := ?Gk) ?hGk rfl (by kernel_rfl) (by kernel_rfl) HX.out ?stk (cs' := cs5 y) (u := .agg (cs5 y)) (seg := (cs5 y).toList) 0 0 rfl rfl ?hpk ?hvk rfl info5 (one5 y) (Nat.le_refl 5) rfl ?nxk
      case hGk => simp only [putAll, List.zip_cons_cons, List.zip_nil_left, Act.put, List.setIfInBounds_toArray, List.set_cons_zero, List.set_cons_succ]; rfl
      case hpk => rfl
      case hvk => rfl
      case stk =>
        intro I hI w' h0 hX
        have k1' : w'.cell? ⟨g11, 1, none⟩ = some (.int .i64 x.f1) := (blk_cell (hX.get 1 rfl) 1).trans rfl
        obtain ⟨m0, m1, m2, m3, m4⟩ := HM.out w' hX.1
        refine ⟨st_ld rfl 0 hX rfl rfl rfl Try.underlying144 rfl info5 rfl h0, st_v rfl h0, st_v rfl h0, st_v rfl h0, st_v rfl h0, st_v rfl h0, st_call rfl Try.func220 (by kernel_rfl) rfl #[.agg (cs5 o), .agg (cs5 s)] rfl ?c6k, trivial⟩
        case c6k => exact (cBeh o s y _ HY.out).mono (fun e w1 q => ⟨q.1, hI _ _ h0 q.2⟩)
      intro w8 h1
      have n_ := Aside0.mk h1
      clear HX h1
      have HX := n_
      clear n_
      go_wp2_with (first
        | ((with_reducible refine gate_dst (N := 116) rfl ?_); refine ld5 (N := 116) rfl 2 HX.out rfl rfl rfl rfl ?_)
        | ((with_reducible refine gate_dst (N := 117) rfl ?_); refine ld5 (N := 117) rfl 0 HX.out rfl rfl rfl rfl ?_)
        | ((with_reducible refine gate_callee (f := 220) rfl ?_); refine go5 (some 118) rfl rfl Try.func220 (by kernel_rfl) rfl #[.agg (cs5 v), .agg (cs5 y)] _ rfl HX.out (cBeh v y b _ HB.out) ?_; clear HX; intro w10 HX)
        | ((with_reducible refine gate_store (t := 144) (p := 9) rfl ?_); refine st5 b 2 HX.out rfl rfl rfl rfl rfl rfl ?_; clear HX; intro w9 HX))
      go_roundg k1
      case measure => have := HK1.out; omega
      case rel => exact ⟨_, b, rfl, H', ⟨by have := HK1.out; omega⟩, ⟨HX.out.pop.pop⟩⟩
    by_cases c21 : x.f0 = 21
    · rw [if_neg c26, if_pos c21] at H
      obtain ⟨m, hm, H⟩ := Option.bind_eq_some_iff.mp H
      obtain ⟨u, hu, H⟩ := Option.bind_eq_some_iff.mp H
      have HP := Aside0.mk (show ∀ (a b : Int) (r' : Int × Int × Int × Int × Int) (W : World), Below w.heap.size w W → spec_l05Part.f k1 l0 a b l3 = some r' → Calls Try.prog 170 #[.slice (some ad) l0.length c0, .int .i64 a, .int .i64 b, .slice A3 l3.length c3] W fun e w' => e = .returned (.agg (cs5 r')) ∧ Below W.heap.size W w' from fun a b r' W hW hh => ih k1 (by have := HK1.out; omega) _ c0 l0 a b A3 c3 l3 r' W (Kd.C_below HR0.out hW) HC0.out (Kd.C_below HR3.out hW) HC3.out hh)
      have d26 : (x.f0 == 26) = false := beq_eq_false_iff_ne.mpr c26
      have k0 : w7.cell? ⟨g11, 0, none⟩ = some (.int .i64 x.f0) := (blk_cell (HX.out.get 1 rfl) 0).trans rfl
      have d21 : (x.f0 == 21) = true := beq_iff_eq.mpr c21
      have HMT := Aside0.mk hm
      have HU := Aside0.mk hu
      have HH := Aside0.mk H
      clear H hm hu c26 c21
      by_cases c : m.1 > 0
      all_goals have H := HH.out
      all_goals clear HH
      · rw [if_pos c] at H
        obtain ⟨A, hA, H⟩ := Option.bind_eq_some_iff.mp H
        obtain ⟨D, hD, H⟩ := Option.bind_eq_some_iff.mp H
        obtain ⟨B, hB, H⟩ := Option.bind_eq_some_iff.mp H
        obtain ⟨C, hC, H⟩ := Option.bind_eq_some_iff.mp H
        obtain ⟨E, hE, H⟩ := Option.bind_eq_some_iff.mp H
        obtain ⟨y, hy, H⟩ := Option.bind_eq_some_iff.mp H
        obtain ⟨b, hb, H⟩ := Option.bind_eq_some_iff.mp H
        have cb : decide (0 < m.1) = true := decide_eq_true c
        have HA := Aside0.mk hA
        have HD := Aside0.mk hD
        have HB0 := Aside0.mk hB
        have HC := Aside0.mk hC
        have HE := Aside0.mk hE
        have HY := Aside0.mk hy
        have HB := Aside0.mk hb
        have H' := Aside0.mk H
        clear H hA hD hB hC hE hy hb c
        go_wp2_with (first
          | ((with_reducible refine gate_callee (f := 138) rfl ?_); refine go5 (some 54) rfl rfl Try.func138 (by kernel_rfl) rfl #[.slice (some ad) l0.length c0, .int .i64 x10] (.tuple #[.int .i64 m.1, .int .i64 m.2.1, .bool m.2.2]) rfl HX.out ((spec_l04Match.calls k1 _ c0 l0 x10 _ _ _ _ (Kd.C_below HR0.out HX.out.1) HC0.out HMT.out).mono (fun e w' q => ⟨q.1, q.2.below⟩)) ?_; clear HX; intro w11 HX)
          | ((with_reducible refine gate_callee (f := 218) rfl ?_); refine go5 (some 58) rfl rfl Try.func218 (by kernel_rfl) rfl #[.int .i64 1, .bool false] _ rfl HX.out (cOne 1 false u _ HU.out) ?_; clear HX; intro w12 HX)
          | ((with_reducible refine gate_dst (N := 16) rfl ?_); refine bx5 (N := 16) rfl rfl rfl HX.out ?_; clear HX; intro g16 w13 HX)
          | ((with_reducible refine gate_store (t := 144) (p := 16) rfl ?_); refine st5 u 0 HX.out rfl rfl rfl rfl rfl rfl ?_; clear HX; intro w14 HX))
        refine regS_ [61, 62, 63, 64, 65, 66, 67, 68, 69, 70, 71, 72, 73, 74, 75, 76, 77, 78, 79] [.agg (cs5 o), .slice (some ad) l0.length c0, .int .i64 x10, .int .i64 (wrap64 (x10 + 1)), .int .i64 m.1, .slice A3 l3.length c3, .agg (cs5 A), .agg (cs5 u), .agg (cs5 D), .slice (some ad) l0.length c0, .int .i64 m.1, .int .i64 (wrap64 (m.1 + 1)), .int .i64 m.2.1, .slice A3 l3.length c3, .agg (cs5 B), .agg (cs5 u), .agg (cs5 C), .agg (cs5 E), .agg (cs5 y)] 144 (.tmp 12) (.tmp 79) (F := ?Gq2) ?hGq2 rfl (by kernel_rfl) (by kernel_rfl) HX.out ?stq2 (cs' := cs5 y) (u := .agg (cs5 y)) (seg := (cs5 y).toList) 1 0 rfl rfl ?hpq2 ?hvq2 rfl info5 (one5 y) (Nat.le_refl 5) rfl ?nxq2
        case hGq2 => simp only [putAll, List.zip_cons_cons, List.zip_nil_left, Act.put, List.setIfInBounds_toArray, List.set_cons_zero, List.set_cons_succ]; rfl
        case hpq2 => rfl
        case hvq2 => rfl
        case stq2 =>
          intro I hI w' h0 hX
          refine ⟨st_ld rfl 1 hX rfl rfl rfl Try.underlying144 rfl info5 rfl h0, st_v rfl h0, st_v rfl h0, st_v rfl h0, st_v rfl h0, st_v rfl h0, st_call rfl Try.func170 (by kernel_rfl) rfl #[.slice (some ad) l0.length c0, .int .i64 (wrap64 (x10 + 1)), .int .i64 m.1, .slice A3 l3.length c3] rfl ?c0q2, st_ld rfl 0 hX rfl rfl rfl Try.underlying144 rfl info5 rfl h0, st_call rfl Try.func220 (by kernel_rfl) rfl #[.agg (cs5 A), .agg (cs5 u)] rfl ?c1q2, st_v rfl h0, st_v rfl h0, st_v rfl h0, st_v rfl h0, st_v rfl h0, st_call rfl Try.func170 (by kernel_rfl) rfl #[.slice (some ad) l0.length c0, .int .i64 (wrap64 (m.1 + 1)), .int .i64 m.2.1, .slice A3 l3.length c3] rfl ?c2q2, st_ld rfl 0 hX rfl rfl rfl Try.underlying144 rfl info5 rfl h0, st_call rfl Try.func220 (by kernel_rfl) rfl #[.agg (cs5 B), .agg (cs5 u)] rfl ?c3q2, st_call rfl Try.func221 (by kernel_rfl) rfl #[.agg (cs5 D), .agg (cs5 C)] rfl ?c4q2, st_call rfl Try.func220 (by kernel_rfl) rfl #[.agg (cs5 o), .agg (cs5 E)] rfl ?c5q2, trivial⟩
          case c0q2 => exact (HP.out _ _ A _ hX.1 HA.out).mono (fun e w1 q => ⟨q.1, hI _ _ h0 q.2⟩)
          case c1q2 => exact (cBeh A u D _ HD.out).mono (fun e w1 q => ⟨q.1, hI _ _ h0 q.2⟩)
          case c2q2 => exact (HP.out _ _ B _ hX.1 HB0.out).mono (fun e w1 q => ⟨q.1, hI _ _ h0 q.2⟩)
          case c3q2 => exact (cBeh B u C _ HC.out).mono (fun e w1 q => ⟨q.1, hI _ _ h0 q.2⟩)
          case c4q2 => exact (cEit D C E _ HE.out).mono (fun e w1 q => ⟨q.1, hI _ _ h0 q.2⟩)
          case c5q2 => exact (cBeh o E y _ HY.out).mono (fun e w1 q => ⟨q.1, hI _ _ h0 q.2⟩)
        intro w15 h1
        have n_ := Aside0.mk h1
        clear HX h1
        have HX := n_
        clear n_
        go_wp2_with (first
          | ((with_reducible refine gate_dst (N := 116) rfl ?_); refine ld5 (N := 116) rfl 3 HX.out rfl rfl rfl rfl ?_)
          | ((with_reducible refine gate_dst (N := 117) rfl ?_); refine ld5 (N := 117) rfl 1 HX.out rfl rfl rfl rfl ?_)
          | ((with_reducible refine gate_callee (f := 220) rfl ?_); refine go5 (some 118) rfl rfl Try.func220 (by kernel_rfl) rfl #[.agg (cs5 v), .agg (cs5 y)] _ rfl HX.out (cBeh v y b _ HB.out) ?_; clear HX; intro w16 HX)
          | ((with_reducible refine gate_store (t := 144) (p := 9) rfl ?_); refine st5 b 3 HX.out rfl rfl rfl rfl rfl rfl ?_; clear HX; intro w17 HX))
        go_roundg k1
        case measure => have := HK1.out; omega
        case rel => exact ⟨_, b, rfl, H', ⟨by have := HK1.out; omega⟩, ⟨HX.out.pop.pop.pop⟩⟩
      · rw [if_neg c] at H
        obtain ⟨A, hA, H⟩ := Option.bind_eq_some_iff.mp H
        obtain ⟨D, hD, H⟩ := Option.bind_eq_some_iff.mp H
        obtain ⟨n, hn, H⟩ := Option.bind_eq_some_iff.mp H
        obtain ⟨E, hE, H⟩ := Option.bind_eq_some_iff.mp H
        obtain ⟨y, hy, H⟩ := Option.bind_eq_some_iff.mp H
        obtain ⟨b, hb, H⟩ := Option.bind_eq_some_iff.mp H
        have cb : decide (0 < m.1) = false := decide_eq_false c
        have HA := Aside0.mk hA
        have HD := Aside0.mk hD
        have HN := Aside0.mk hn
        have HE := Aside0.mk hE
        have HY := Aside0.mk hy
        have HB := Aside0.mk hb
        have H' := Aside0.mk H
        clear H hA hD hn hE hy hb c
        go_wp2_with (first
          | ((with_reducible refine gate_callee (f := 138) rfl ?_); refine go5 (some 54) rfl rfl Try.func138 (by kernel_rfl) rfl #[.slice (some ad) l0.length c0, .int .i64 x10] (.tuple #[.int .i64 m.1, .int .i64 m.2.1, .bool m.2.2]) rfl HX.out ((spec_l04Match.calls k1 _ c0 l0 x10 _ _ _ _ (Kd.C_below HR0.out HX.out.1) HC0.out HMT.out).mono (fun e w' q => ⟨q.1, q.2.below⟩)) ?_; clear HX; intro w11 HX)
          | ((with_reducible refine gate_callee (f := 218) rfl ?_); refine go5 (some 58) rfl rfl Try.func218 (by kernel_rfl) rfl #[.int .i64 1, .bool false] _ rfl HX.out (cOne 1 false u _ HU.out) ?_; clear HX; intro w12 HX)
          | ((with_reducible refine gate_dst (N := 16) rfl ?_); refine bx5 (N := 16) rfl rfl rfl HX.out ?_; clear HX; intro g16 w13 HX)
          | ((with_reducible refine gate_store (t := 144) (p := 16) rfl ?_); refine st5 u 0 HX.out rfl rfl rfl rfl rfl rfl ?_; clear HX; intro w14 HX))
        refine regS_ [80, 81, 82, 83, 84, 85, 86, 87, 88, 89, 90, 91] [.agg (cs5 o), .slice (some ad) l0.length c0, .int .i64 x10, .int .i64 (wrap64 (x10 + 1)), .int .i64 m.2.1, .slice A3 l3.length c3, .agg (cs5 A), .agg (cs5 u), .agg (cs5 D), .agg (cs5 n), .agg (cs5 E), .agg (cs5 y)] 144 (.tmp 12) (.tmp 91) (F := ?Gq3) ?hGq3 rfl (by kernel_rfl) (by kernel_rfl) HX.out ?stq3 (cs' := cs5 y) (u := .agg (cs5 y)) (seg := (cs5 y).toList) 1 0 rfl rfl ?hpq3 ?hvq3 rfl info5 (one5 y) (Nat.le_refl 5) rfl ?nxq3
        case hGq3 => simp only [putAll, List.zip_cons_cons, List.zip_nil_left, Act.put, List.setIfInBounds_toArray, List.set_cons_zero, List.set_cons_succ]; rfl
        case hpq3 => rfl
        case hvq3 => rfl
        case stq3 =>
          intro I hI w' h0 hX
          refine ⟨st_ld rfl 1 hX rfl rfl rfl Try.underlying144 rfl info5 rfl h0, st_v rfl h0, st_v rfl h0, st_v rfl h0, st_v rfl h0, st_v rfl h0, st_call rfl Try.func170 (by kernel_rfl) rfl #[.slice (some ad) l0.length c0, .int .i64 (wrap64 (x10 + 1)), .int .i64 m.2.1, .slice A3 l3.length c3] rfl ?c0q3, st_ld rfl 0 hX rfl rfl rfl Try.underlying144 rfl info5 rfl h0, st_call rfl Try.func220 (by kernel_rfl) rfl #[.agg (cs5 A), .agg (cs5 u)] rfl ?c1q3, st_call rfl Try.func218 (by kernel_rfl) rfl #[.int .i64 0, .bool false] rfl ?c2q3, st_call rfl Try.func221 (by kernel_rfl) rfl #[.agg (cs5 D), .agg (cs5 n)] rfl ?c3q3, st_call rfl Try.func220 (by kernel_rfl) rfl #[.agg (cs5 o), .agg (cs5 E)] rfl ?c4q3, trivial⟩
          case c0q3 => exact (HP.out _ _ A _ hX.1 HA.out).mono (fun e w1 q => ⟨q.1, hI _ _ h0 q.2⟩)
          case c1q3 => exact (cBeh A u D _ HD.out).mono (fun e w1 q => ⟨q.1, hI _ _ h0 q.2⟩)
          case c2q3 => exact (cOne 0 false n _ HN.out).mono (fun e w1 q => ⟨q.1, hI _ _ h0 q.2⟩)
          case c3q3 => exact (cEit D n E _ HE.out).mono (fun e w1 q => ⟨q.1, hI _ _ h0 q.2⟩)
          case c4q3 => exact (cBeh o E y _ HY.out).mono (fun e w1 q => ⟨q.1, hI _ _ h0 q.2⟩)
        intro w15 h1
        have n_ := Aside0.mk h1
        clear HX h1
        have HX := n_
        clear n_
        go_wp2_with (first
          | ((with_reducible refine gate_dst (N := 116) rfl ?_); refine ld5 (N := 116) rfl 3 HX.out rfl rfl rfl rfl ?_)
          | ((with_reducible refine gate_dst (N := 117) rfl ?_); refine ld5 (N := 117) rfl 1 HX.out rfl rfl rfl rfl ?_)
          | ((with_reducible refine gate_callee (f := 220) rfl ?_); refine go5 (some 118) rfl rfl Try.func220 (by kernel_rfl) rfl #[.agg (cs5 v), .agg (cs5 y)] _ rfl HX.out (cBeh v y b _ HB.out) ?_; clear HX; intro w16 HX)
          | ((with_reducible refine gate_store (t := 144) (p := 9) rfl ?_); refine st5 b 3 HX.out rfl rfl rfl rfl rfl rfl ?_; clear HX; intro w17 HX))
        go_roundg k1
        case measure => have := HK1.out; omega
        case rel => exact ⟨_, b, rfl, H', ⟨by have := HK1.out; omega⟩, ⟨HX.out.pop.pop.pop⟩⟩
    by_cases c24 : x.f0 = 24
    · rw [if_neg c26, if_neg c21, if_pos c24] at H
      obtain ⟨m, hm, H⟩ := Option.bind_eq_some_iff.mp H
      obtain ⟨A, hA, H⟩ := Option.bind_eq_some_iff.mp H
      obtain ⟨u, hu, H⟩ := Option.bind_eq_some_iff.mp H
      obtain ⟨D, hD, H⟩ := Option.bind_eq_some_iff.mp H
      obtain ⟨T, hT, H⟩ := Option.bind_eq_some_iff.mp H
      obtain ⟨y, hy, H⟩ := Option.bind_eq_some_iff.mp H
      obtain ⟨b, hb, H⟩ := Option.bind_eq_some_iff.mp H
      have HP := Aside0.mk (show ∀ (a b : Int) (r' : Int × Int × Int × Int × Int) (W : World), Below w.heap.size w W → spec_l05Part.f k1 l0 a b l3 = some r' → Calls Try.prog 170 #[.slice (some ad) l0.length c0, .int .i64 a, .int .i64 b, .slice A3 l3.length c3] W fun e w' => e = .returned (.agg (cs5 r')) ∧ Below W.heap.size W w' from fun a b r' W hW hh => ih k1 (by have := HK1.out; omega) _ c0 l0 a b A3 c3 l3 r' W (Kd.C_below HR0.out hW) HC0.out (Kd.C_below HR3.out hW) HC3.out hh)
      have d26 : (x.f0 == 26) = false := beq_eq_false_iff_ne.mpr c26
      have k0 : w7.cell? ⟨g11, 0, none⟩ = some (.int .i64 x.f0) := (blk_cell (HX.out.get 1 rfl) 0).trans rfl
      have d21 : (x.f0 == 21) = false := beq_eq_false_iff_ne.mpr c21
      have d24 : (x.f0 == 24) = true := beq_iff_eq.mpr c24
      have HMT := Aside0.mk hm
      have HA := Aside0.mk hA
      have HU := Aside0.mk hu
      have HD := Aside0.mk hD
      have HTT := Aside0.mk hT
      have HY := Aside0.mk hy
      have HB := Aside0.mk hb
      have H' := Aside0.mk H
      clear H hm hA hu hD hT hy hb c26 c21 c24
      go_wp2_with (first
        | ((with_reducible refine gate_callee (f := 138) rfl ?_); refine go5 (some 98) rfl rfl Try.func138 (by kernel_rfl) rfl #[.slice (some ad) l0.length c0, .int .i64 x10] (.tuple #[.int .i64 m.1, .int .i64 m.2.1, .bool m.2.2]) rfl HX.out ((spec_l04Match.calls k1 _ c0 l0 x10 _ _ _ _ (Kd.C_below HR0.out HX.out.1) HC0.out HMT.out).mono (fun e w' q => ⟨q.1, q.2.below⟩)) ?_; clear HX; intro w11 HX))
      refine regS_ [102, 103, 104, 105, 106, 107, 108, 109, 110, 111, 112, 113, 114] [.agg (cs5 o), .slice (some ad) l0.length c0, .int .i64 x10, .int .i64 (wrap64 (x10 + 1)), .int .i64 m.2.1, .slice A3 l3.length c3, .agg (cs5 A), .agg (cs5 u), .agg (cs5 D), .pointer (some ⟨g11, 1, none⟩), .int .i64 x.f1, .agg (cs5 T), .agg (cs5 y)] 144 (.tmp 12) (.tmp 114) (F := ?Gq1) ?hGq1 rfl (by kernel_rfl) (by kernel_rfl) HX.out ?stq1 (cs' := cs5 y) (u := .agg (cs5 y)) (seg := (cs5 y).toList) 0 0 rfl rfl ?hpq1 ?hvq1 rfl info5 (one5 y) (Nat.le_refl 5) rfl ?nxq1
      case hGq1 => simp only [putAll, List.zip_cons_cons, List.zip_nil_left, Act.put, List.setIfInBounds_toArray, List.set_cons_zero, List.set_cons_succ]; rfl
      case hpq1 => rfl
      case hvq1 => rfl
      case stq1 =>
        intro I hI w' h0 hX
        have k1' : w'.cell? ⟨g11, 1, none⟩ = some (.int .i64 x.f1) := (blk_cell (hX.get 1 rfl) 1).trans rfl
        refine ⟨st_ld rfl 0 hX rfl rfl rfl Try.underlying144 rfl info5 rfl h0, st_v rfl h0, st_v rfl h0, st_v rfl h0, st_v rfl h0, st_v rfl h0, st_call rfl Try.func170 (by kernel_rfl) rfl #[.slice (some ad) l0.length c0, .int .i64 (wrap64 (x10 + 1)), .int .i64 m.2.1, .slice A3 l3.length c3] rfl ?c0q1, st_call rfl Try.func218 (by kernel_rfl) rfl #[.int .i64 1, .bool false] rfl ?c1q1, st_call rfl Try.func220 (by kernel_rfl) rfl #[.agg (cs5 A), .agg (cs5 u)] rfl ?c2q1, st_v rfl h0, st_v rfl h0, st_call rfl Try.func222 (by kernel_rfl) rfl #[.agg (cs5 D), .int .i64 x.f1] rfl ?c3q1, st_call rfl Try.func220 (by kernel_rfl) rfl #[.agg (cs5 o), .agg (cs5 T)] rfl ?c4q1, trivial⟩
        case c0q1 => exact (HP.out _ _ A _ hX.1 HA.out).mono (fun e w1 q => ⟨q.1, hI _ _ h0 q.2⟩)
        case c1q1 => exact (cOne 1 false u _ HU.out).mono (fun e w1 q => ⟨q.1, hI _ _ h0 q.2⟩)
        case c2q1 => exact (cBeh A u D _ HD.out).mono (fun e w1 q => ⟨q.1, hI _ _ h0 q.2⟩)
        case c3q1 => exact (cTim k1 D T x.f1 _ HTT.out).mono (fun e w1 q => ⟨q.1, hI _ _ h0 q.2⟩)
        case c4q1 => exact (cBeh o T y _ HY.out).mono (fun e w1 q => ⟨q.1, hI _ _ h0 q.2⟩)
      intro w12 h1
      have n_ := Aside0.mk h1
      clear HX h1
      have HX := n_
      clear n_
      go_wp2_with (first
        | ((with_reducible refine gate_dst (N := 116) rfl ?_); refine ld5 (N := 116) rfl 2 HX.out rfl rfl rfl rfl ?_)
        | ((with_reducible refine gate_dst (N := 117) rfl ?_); refine ld5 (N := 117) rfl 0 HX.out rfl rfl rfl rfl ?_)
        | ((with_reducible refine gate_callee (f := 220) rfl ?_); refine go5 (some 118) rfl rfl Try.func220 (by kernel_rfl) rfl #[.agg (cs5 v), .agg (cs5 y)] _ rfl HX.out (cBeh v y b _ HB.out) ?_; clear HX; intro w13 HX)
        | ((with_reducible refine gate_store (t := 144) (p := 9) rfl ?_); refine st5 b 2 HX.out rfl rfl rfl rfl rfl rfl ?_; clear HX; intro w14 HX))
      go_roundg k1
      case measure => have := HK1.out; omega
      case rel => exact ⟨_, b, rfl, H', ⟨by have := HK1.out; omega⟩, ⟨HX.out.pop.pop⟩⟩
    · rw [if_neg c26, if_neg c21, if_neg c24] at H
      obtain ⟨b, hb, H⟩ := Option.bind_eq_some_iff.mp H
      have HB := Aside0.mk hb
      have H' := Aside0.mk H
      have d26 : (x.f0 == 26) = false := beq_eq_false_iff_ne.mpr c26
      have d21 : (x.f0 == 21) = false := beq_eq_false_iff_ne.mpr c21
      have d24 : (x.f0 == 24) = false := beq_eq_false_iff_ne.mpr c24
      have k0 : w7.cell? ⟨g11, 0, none⟩ = some (.int .i64 x.f0) := (blk_cell (HX.out.get 1 rfl) 0).trans rfl
      clear H hb c26 c21 c24
      go_wp2_with (first
        | ((with_reducible refine gate_dst (N := 116) rfl ?_); refine ld5 (N := 116) rfl 2 HX.out rfl rfl rfl rfl ?_)
        | ((with_reducible refine gate_dst (N := 117) rfl ?_); refine ld5 (N := 117) rfl 0 HX.out rfl rfl rfl rfl ?_)
        | ((with_reducible refine gate_callee (f := 220) rfl ?_); refine go5 (some 118) rfl rfl Try.func220 (by kernel_rfl) rfl #[.agg (cs5 v), .agg (cs5 o)] _ rfl HX.out (cBeh v o b _ HB.out) ?_; clear HX; intro w8 HX)
        | ((with_reducible refine gate_store (t := 144) (p := 9) rfl ?_); refine st5 b 2 HX.out rfl rfl rfl rfl rfl rfl ?_; clear HX; intro w9 HX))
      go_roundg k1
      case measure => have := HK1.out; omega
      case rel => exact ⟨_, b, rfl, H', ⟨by have := HK1.out; omega⟩, ⟨HX.out.pop.pop⟩⟩
theorem spec_l05Part.calls (k : Nat) (A0 : Option Addr) (c0 : Nat) (l0 : List (S96)) (a1 : Int) (a2 : Int) (A3 : Option Addr) (c3 : Nat) (l3 : List (S144)) (r1 r2 r3 r4 r5 : Int) (w : World) (hr0 : Kd.C k96 w A0 l0.length l0) (hc0 : l0.length ≤ c0) (hr3 : Kd.C k144 w A3 l3.length l3) (hc3 : l3.length ≤ c3) (h : spec_l05Part.f k l0 a1 a2 l3 = some (r1, r2, r3, r4, r5)) :
    Calls Try.prog 170 #[.slice A0 l0.length c0, .int .i64 a1, .int .i64 a2, .slice A3 l3.length c3] w fun e w' => e = .returned (.agg #[.int .i64 r1, .int .i64 r2, .int .i64 r3, .int .i64 r4, .int .i64 r5]) ∧ Below w.heap.size w w' :=
  spec_l05Part.callsV k A0 c0 l0 a1 a2 A3 c3 l3 (r1, r2, r3, r4, r5) w hr0 hc0 hr3 hc3 h

end Go.Proofs.Ytkegjmkdnfpfdaa.MFnExactCostsOf
