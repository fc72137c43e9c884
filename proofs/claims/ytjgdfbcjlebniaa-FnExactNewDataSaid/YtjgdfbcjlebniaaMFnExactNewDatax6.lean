-- Text written by a program of this session (wip/tools: the kit's printer with additions of ours).
import Derived.Test.YtjgdfbcjlebniaaMFnExactNewDatax0
import Derived.Test.YtjgdfbcjlebniaaMFnExactNewDatax5
namespace Go.Proofs.Ytjgdfbcjlebniaa.MFnExactNewData
open Go.RowKit Go.Proofs.YtjgdfbcjlebniaaW.PrintWords Go.Proofs.YtjgdfbcjlebniaaW.PrintLast Go.Proofs.YtjgdfbcjlebniaaW.PrintMore
attribute [local go_sem] max2_int min2_int max_two min_two max_three min_three max_four min_four   -- for this text's walks alone
set_option linter.unusedVariables false
set_option linter.unusedSimpArgs false

/-! ### spec_l06New: function 61 -/
def spec_l06New.l0 : Nat → List Int → Int → List Int → List (S77) → List Bool → List Bool → List Bool → List Bool → Int → Option (List Int × (List (S77)) × List Bool × List Bool × List Bool × List Bool × Int)
  | 0, _, _, _, _, _, _, _, _, _ => none
  | k + 1, x0, x4, x147000, x147001, x147002, x147003, x147004, x147005, x147006 => if x4 < (x0.length : Int) then (if 0 ≤ x4 then (if x147001.length < 4398046511104 then (spec_l06New.l0 k x0 (wrap64 (x4 + 1)) x147000 (x147001 ++ [(⟨rd x0 x4, false, 0, 0⟩ : S77)]) x147002 x147003 x147004 x147005 x147006) else (none)) else (none)) else (some (x147000, x147001, x147002, x147003, x147004, x147005, x147006))
def spec_l06New.f (k : Nat) (l0 : List Int) : Option (List Int × (List (S77)) × List Bool × List Bool × List Bool × List Bool × Int) := if 16 ≤ 35184372088832 then ((spec_l06Bools.f k 8).bind fun t134 => ((spec_l06Bools.f k 8).bind fun t137 => ((spec_l06Bools.f k 8).bind fun t140 => ((spec_l06Bools.f k 8).bind fun t143 => (spec_l06New.l0 k l0 0 (List.replicate 16 0) (([] : List (S77))) t134 t137 t140 t143 0))))) else (none)
theorem spec_l06New.mono_l : ∀ k, (∀ y0 y1 y2 y3 y4 y5 y6 y7 y8, LeO (spec_l06New.l0 k y0 y1 y2 y3 y4 y5 y6 y7 y8) (spec_l06New.l0 (k + 1) y0 y1 y2 y3 y4 y5 y6 y7 y8))
  | 0 => fun _ _ _ _ _ _ _ _ _ r h => by simp [spec_l06New.l0] at h
  | k + 1 => by
    have ih0 := spec_l06New.mono_l k
    · intro y0 y1 y2 y3 y4 y5 y6 y7 y8
      unfold spec_l06New.l0
      repeat' first
      | (with_reducible exact ih0 _ _ _ _ _ _ _ _ _)
      | (with_reducible exact spec_l06Bools.mono _ _)
      | (with_reducible exact LeO.refl _)
      | (with_reducible exact LeO.none _)
      | (with_reducible refine LeO.ite ?_ ?_)
      | (with_reducible refine LeO.bind ?_ (fun _ => ?_))
      | exact ih0 _ _ _ _ _ _ _ _ _
      | exact spec_l06Bools.mono _ _
      | exact LeO.none _
      | refine LeO.ite ?_ ?_
      | refine LeO.bind ?_ (fun _ => ?_)
theorem spec_l06New.mono : ∀ a0 k, LeO (spec_l06New.f k a0) (spec_l06New.f (k + 1) a0) := by
  intro a0 k
  have ih0 := spec_l06New.mono_l k
  unfold spec_l06New.f
  repeat' first
      | (with_reducible exact ih0 _ _ _ _ _ _ _ _ _)
      | (with_reducible exact spec_l06Bools.mono _ _)
      | (with_reducible exact LeO.refl _)
      | (with_reducible exact LeO.none _)
      | (with_reducible refine LeO.ite ?_ ?_)
      | (with_reducible refine LeO.bind ?_ (fun _ => ?_))
      | exact ih0 _ _ _ _ _ _ _ _ _
      | exact spec_l06Bools.mono _ _
      | exact LeO.none _
      | refine LeO.ite ?_ ?_
      | refine LeO.bind ?_ (fun _ => ?_)
def spec_l06New.T1 : Bool × List (List Nat × List Nat) := (true, [([], []), ([], []), ([], []), ([2], []), ([3], []), ([4], []), ([0, 1, 2, 3, 4, 5], [0, 1, 2, 3, 4, 5]), ([], []), ([7, 6, 5, 0, 1, 2, 3, 4, 5, 6, 7], [6, 7])])
def spec_l06New.B1 : List Nat := [0, 0, 0, 4, 12, 28, 63, 0, 255]
theorem spec_l06New.tab1 : rtab .any (opsOf Try.f61 1) = spec_l06New.T1 := by kernel_rfl
theorem spec_l06New.bits1 : waitsOk spec_l06New.T1.2 spec_l06New.B1 = true := by kernel_rfl
def spec_l06New.T5 : Bool × List (List Nat × List Nat) := (true, [([], []), ([0], [0]), ([], []), ([], []), ([2, 3], [2, 3]), ([4], [4]), ([5], [5]), ([6], [6]), ([1, 7], [1, 7]), ([0, 1, 2, 3, 4, 5, 6, 7, 8], []), ([9, 8, 8, 0, 1, 2, 3, 4, 5, 6, 7, 8], [8, 9])])
def spec_l06New.B5 : List Nat := [0, 1, 0, 0, 12, 28, 60, 124, 255, 511, 1023]
theorem spec_l06New.tab5 : rtab .any (opsOf Try.f61 5) = spec_l06New.T5 := by kernel_rfl
theorem spec_l06New.bits5 : waitsOk spec_l06New.T5.2 spec_l06New.B5 = true := by kernel_rfl
/-! A region whose operations come up in any order, walked with one invariant over the operations that have come up. -/
section
variable {P : Program} {ops : Array Oper} {Q : Exit → Act → World → Prop}
/-- Each operation waits for earlier ones alone. -/
def lowB (T : List (List Nat × List Nat)) : Bool := (List.range T.length).all fun i => match T[i]? with | some r => r.1.all (fun j => decide (j < i)) | none => true
theorem low_done {T : List (List Nat × List Nat)} (hl : lowB T = true) (l : List Bool) (hn : l.length = T.length) (hr : readyT T l = []) : ∀ i, i < T.length → l.getD i false = true := by
  intro i
  induction i using Nat.strongRecOn with
  | _ i ih =>
    intro hi
    by_cases c : l.getD i false = true
    · exact c
    · exfalso
      have hm : i ∈ readyT T l := by
        unfold readyT
        refine List.mem_filter.2 ⟨List.mem_range.2 hi, ?_⟩
        unfold readyAt
        have h1 : l.getD i true = false := by
          have hi' : i < l.length := by omega
          simp only [List.getD_eq_getElem?_getD, List.getElem?_eq_getElem hi', Option.getD_some] at c ⊢
          simpa using c
        rw [h1, List.getElem?_eq_getElem hi]
        simp only [Bool.not_false, Bool.true_and]
        refine List.all_eq_true.2 (fun j hj => ?_)
        have h2 := List.all_eq_true.1 hl i (List.mem_range.2 hi)
        rw [List.getElem?_eq_getElem hi] at h2
        have h3 := of_decide_eq_true (List.all_eq_true.1 h2 j hj)
        exact ih j h3 (by omega)
      rw [hr] at hm
      cases hm
theorem all_true {l : List Bool} {n : Nat} (hn : l.length = n) (h : ∀ i, i < n → l.getD i false = true) : l = List.replicate n true := by
  refine List.ext_getElem (by simp [hn]) (fun i h1 h2 => ?_)
  have := h i (by omega)
  rw [List.getD_eq_getElem?_getD, List.getElem?_eq_getElem h1] at this
  simpa using this
theorem last_inv {T : Bool × List (List Nat × List Nat)} {S : World → Prop} {ds : List Nat} (hS : ∀ w, S w) (hT : rtab .any ops = T) (hl : lowB T.2 = true) (m : Nat) (hm : T.2.length = m + 1)
    (hlast : (match T.2[m]? with | some r => (List.range m).all (fun j => r.1.contains j) | none => false) = true) (I : List Bool → Act → World → Prop)
    (hend : ∀ a w, I (List.replicate m true ++ [false]) a w → wpAnyLast P .any ops Q S ds 1 (List.replicate m true ++ [false]).toArray a w)
    (hstep : ∀ (l : List Bool) a w, l.length = m + 1 → I l a w → ∀ i, i < m → l.getD i true = false → (∀ r, T.2[i]? = some r → ∀ j ∈ r.1, l.getD j false = true) → wpOp P ops Q i (fun a' w' => I (l.set i true) a' w') a w) :
    ∀ (fuel : Nat) (l : Array Bool) a w, l.size = m + 1 → l.toList.getD m true = false → l.toList.count false = fuel + 1 → I l.toList a w → wpAnyLast P .any ops Q S ds (fuel + 1) l a w := by
  intro fuel
  induction fuel with
  | zero =>
    intro l a w hs hlm hc hI
    have ht : l.toList = List.replicate m true ++ [false] := by
      refine List.ext_getElem (by simpa using hs) (fun i h1 h2 => ?_)
      have hi : i < m + 1 := by simp at h2; omega
      have hml : m < l.toList.length := by simp; omega
      have hlm' : l.toList[m] = false := by
        rw [List.getD_eq_getElem?_getD, List.getElem?_eq_getElem hml] at hlm
        simpa using hlm
      by_cases c : i = m
      · subst c
        rw [hlm']
        simp
      · have c2 : i < m := by omega
        rw [List.getElem_append_left (by simpa using c2)]
        simp only [List.getElem_replicate]
        cases h : l.toList[i] with
        | true => rfl
        | false =>
          exfalso
          have hsp := List.take_append_drop m l.toList
          have e1 : 0 < (l.toList.take m).count false := List.count_pos_iff.2 (by
            rw [List.mem_take_iff_getElem]
            exact ⟨i, by omega, h⟩)
          have e2 : 0 < (l.toList.drop m).count false := List.count_pos_iff.2 (by
            rw [List.drop_eq_getElem_cons hml, hlm']
            exact List.mem_cons_self)
          have := List.count_append (a := false) (l₁ := l.toList.take m) (l₂ := l.toList.drop m)
          rw [hsp] at this
          omega
    have := hend a w (ht ▸ hI)
    rw [← ht] at this
    exact this
  | succ fuel ih =>
    intro l a w hs hlm hc hI
    have hrd : ∀ i, i ∈ Region.ready .any ops l → i < T.2.length ∧ l.toList.getD i true = false ∧ ∀ r, T.2[i]? = some r → ∀ j ∈ r.1, l.toList.getD j false = true := by
      intro i hi
      rw [ready_eq, hT] at hi
      unfold readyT at hi
      obtain ⟨hi1, hi2⟩ := List.mem_filter.1 hi
      unfold readyAt at hi2
      rw [Bool.and_eq_true] at hi2
      refine ⟨List.mem_range.1 hi1, by simpa using hi2.1, fun r hr j hj => ?_⟩
      have := hi2.2
      rw [hr] at this
      exact List.all_eq_true.1 this j hj
    refine ⟨fun h0 => ?_, fun i hi => ?_⟩
    · exfalso
      rw [ready_eq, hT] at h0
      have := low_done hl l.toList (by simpa [hm] using hs) h0 m (by omega)
      rw [List.getD_eq_getElem?_getD] at this hlm
      have hml : m < l.toList.length := by simp; omega
      rw [List.getElem?_eq_getElem hml] at this hlm
      simp only [Option.getD_some] at this hlm
      rw [this] at hlm
      cases hlm
    obtain ⟨hi1, hf, hd⟩ := hrd i hi
    have hne : i ≠ m := by
      intro e
      subst e
      have hr := List.getElem?_eq_getElem hi1
      rw [hr] at hlast
      simp only at hlast
      have : l.toList = List.replicate i true ++ [false] := by
        refine List.ext_getElem (by simpa using hs) (fun k h1 h2 => ?_)
        have hk : k < i + 1 := by simp at h2; omega
        by_cases c : k = i
        · subst c
          have hml : k < l.toList.length := h1
          rw [List.getD_eq_getElem?_getD, List.getElem?_eq_getElem hml] at hlm
          simp only [Option.getD_some] at hlm
          rw [hlm]
          simp
        · have c2 : k < i := by omega
          rw [List.getElem_append_left (by simpa using c2)]
          simp only [List.getElem_replicate]
          have h3 := List.all_eq_true.1 hlast k (List.mem_range.2 c2)
          have h4 := hd _ hr k (by simpa using h3)
          rw [List.getD_eq_getElem?_getD, List.getElem?_eq_getElem h1] at h4
          simpa using h4
      rw [this] at hc
      simp [List.count_append, List.count_replicate] at hc
    have hst := hstep l.toList a w (by simpa using hs) hI i (by omega) hf hd
    refine wpOp_mono (fun a' w' h' => ⟨fun _ _ => hS w', ?_⟩) hst
    have hi' : i < l.toList.length := by simp; omega
    have hfi : l.toList[i] = false := by
      rw [List.getD_eq_getElem?_getD, List.getElem?_eq_getElem hi'] at hf
      simpa using hf
    refine ih _ a' w' (by simpa using hs) ?_ ?_ (by simpa using h')
    · rw [Array.toList_setIfInBounds, List.getD_eq_getElem?_getD, List.getElem?_set_ne hne, ← List.getD_eq_getElem?_getD]
      exact hlm
    · rw [Array.toList_setIfInBounds, List.count_set hi', hfi]
      show l.toList.count false - 1 + 0 = fuel + 1
      omega
end
/-- The slots as they are when the operations of l have come up: D tells which operation writes a slot, V what it writes. -/
def updT (D : Nat → Option Nat) (l : List Bool) (V : Nat → Value) (t : Array Value) : Array Value := t.mapIdx fun k v => match D k with | some i => if l.getD i false then V i else v | none => v
def updA (a : Act) (D : Nat → Option Nat) (l : List Bool) (V : Nat → Value) : Act := { a with tmps := updT D l V a.tmps }
def setV (V : Nat → Value) (i : Nat) (v : Value) : Nat → Value := fun j => if j = i then v else V j
theorem setV_same (V : Nat → Value) (i : Nat) (v : Value) : setV V i v i = v := if_pos rfl
theorem setV_other (V : Nat → Value) {i j : Nat} (v : Value) (h : j ≠ i) : setV V i v j = V j := if_neg h
theorem updA_start (a : Act) (D : Nat → Option Nat) (n : Nat) (V : Nat → Value) : updA a D (List.replicate n false) V = a := by
  unfold updA updT
  have : a.tmps.mapIdx (fun k v => match D k with | some i => if (List.replicate n false).getD i false then V i else v | none => v) = a.tmps := by
    refine Array.ext (by simp) (fun k h1 h2 => ?_)
    rw [Array.getElem_mapIdx]
    cases D k with
    | none => rfl
    | some i =>
      have : (List.replicate n false).getD i false = false := by
        rw [List.getD_eq_getElem?_getD, List.getElem?_replicate]
        split <;> rfl
      simp only [this, Bool.false_eq_true, if_false]
  rw [this]
theorem updA_put (a : Act) (D : Nat → Option Nat) (l : List Bool) (V : Nat → Value) (i N : Nat) (v : Value) (hi : i < l.length) (hD : D N = some i) (hu : ∀ k, D k = some i → k = N) :
    (updA a D l V).put (some N) v = updA a D (l.set i true) (setV V i v) := by
  unfold updA updT Act.put
  simp only
  congr 1
  refine Array.ext (by simp) (fun k h1 h2 => ?_)
  have hk0 : k < (a.tmps.mapIdx (fun k v => match D k with | some i => if l.getD i false then V i else v | none => v)).size := by simpa using h1
  rw [Array.getElem_setIfInBounds hk0, Array.getElem_mapIdx]
  by_cases c : N = k
  · subst c
    rw [if_pos rfl]
    simp [List.getD_eq_getElem?_getD, hi, setV, hD]
  · rw [if_neg c, Array.getElem_mapIdx]
    cases hk : D k with
    | none => rfl
    | some j =>
      have hj : j ≠ i := fun e => c (hu k (e ▸ hk)).symm
      simp only [List.getD_eq_getElem?_getD, List.getElem?_set_ne (Ne.symm hj), setV_other V v hj]
theorem updA_skip (a : Act) (D : Nat → Option Nat) (l : List Bool) (V : Nat → Value) (i : Nat) (hu : ∀ k, D k ≠ some i) : updA a D l V = updA a D (l.set i true) V := by
  unfold updA updT
  congr 1
  refine Array.ext (by simp) (fun k h1 h2 => ?_)
  rw [Array.getElem_mapIdx, Array.getElem_mapIdx]
  cases hk : D k with
  | none => rfl
  | some j =>
    have hj : j ≠ i := fun e => hu k (e ▸ hk)
    simp only [List.getD_eq_getElem?_getD, List.getElem?_set_ne (Ne.symm hj)]
theorem updA_tmp (a : Act) (D : Nat → Option Nat) (l : List Bool) (V : Nat → Value) (i N : Nat) (hN : N < a.tmps.size) (hD : D N = some i) (hl : l.getD i false = true) : (updA a D l V).eval (.tmp N) = V i := by
  unfold updA updT Act.eval
  simp only [Array.getD_eq_getD_getElem?, Array.getElem?_mapIdx, Array.getElem?_eq_getElem hN, Option.map_some, Option.getD_some, hD, hl, if_true]
theorem updA_old (a : Act) (D : Nat → Option Nat) (l : List Bool) (V : Nat → Value) (N : Nat) (hD : D N = none) : (updA a D l V).eval (.tmp N) = a.eval (.tmp N) := by
  unfold updA updT Act.eval
  simp only [Array.getD_eq_getD_getElem?, Array.getElem?_mapIdx, hD]
  cases a.tmps[N]? <;> rfl
/-- The slots' table as a function. -/
def slotOf (ps : List (Nat × Nat)) (k : Nat) : Option Nat := (ps.find? (fun p => p.1 == k)).map (·.2)
theorem slotOf_mem {ps : List (Nat × Nat)} {k i : Nat} (h : slotOf ps k = some i) : (k, i) ∈ ps := by
  unfold slotOf at h
  cases hf : ps.find? (fun p => p.1 == k) with
  | none => rw [hf] at h; cases h
  | some p =>
    rw [hf] at h
    have h1 := List.mem_of_find?_eq_some hf
    have h2 := List.find?_some hf
    obtain ⟨a, b⟩ := p
    simp only [Option.map_some, Option.some.injEq, beq_iff_eq] at h h2
    subst h h2
    exact h1
def onceB (ps : List (Nat × Nat)) (N i : Nat) : Bool := slotOf ps N == some i && ps.all (fun p => p.2 != i || p.1 == N)
theorem once_slot {ps : List (Nat × Nat)} {N i : Nat} (h : onceB ps N i = true) : slotOf ps N = some i ∧ ∀ k, slotOf ps k = some i → k = N := by
  unfold onceB at h
  rw [Bool.and_eq_true, beq_iff_eq] at h
  refine ⟨h.1, fun k hk => ?_⟩
  have := List.all_eq_true.1 h.2 _ (slotOf_mem hk)
  simpa using this
theorem updA_put_same (a : Act) (D : Nat → Option Nat) (l : List Bool) (V : Nat → Value) (i N : Nat) (hi : i < l.length) (hD : D N = some i) (hu : ∀ k, D k = some i → k = N) :
    (updA a D l V).put (some N) (V i) = updA a D (l.set i true) V := by
  rw [updA_put a D l V i N _ hi hD hu]
  congr 1
  funext j
  unfold setV
  split <;> simp_all
theorem putAll_upd (a : Act) (D : Nat → Option Nat) (V : Nat → Value) : ∀ (ps : List (Nat × Nat)) (l : List Bool), (∀ p ∈ ps, p.2 < l.length ∧ D p.1 = some p.2 ∧ ∀ k, D k = some p.2 → k = p.1) →
    putAll (updA a D l V) (ps.map (fun p => (p.1, V p.2))) = updA a D (ps.foldl (fun l p => l.set p.2 true) l) V
  | [], _, _ => rfl
  | p :: ps, l, h => by
    obtain ⟨h1, h2, h3⟩ := h p List.mem_cons_self
    rw [List.map_cons, List.foldl_cons]
    unfold putAll
    rw [updA_put_same a D l V p.2 p.1 h1 h2 h3]
    exact putAll_upd a D V ps _ (fun q hq => by
      obtain ⟨q1, q2, q3⟩ := h q (List.mem_cons_of_mem _ hq)
      exact ⟨by simpa using q1, q2, q3⟩)
/-- A region of m operations in any order, and a last one behind them: NJ is what holds when the operations of l have come up, V what they have written. -/
theorem makers_ {P : Program} {ops : Array Oper} {Q : Exit → Act → World → Prop} {T : Bool × List (List Nat × List Nat)} {S : World → Prop} {ds : List Nat} {a : Act} {w : World} (ps : List (Nat × Nat)) (NJ : List Bool → (Nat → Value) → World → Prop) (V0 : Nat → Value)
    (hS : ∀ w, S w) (hT : rtab .any ops = T) (hl : lowB T.2 = true) (m : Nat) (hm : T.2.length = m + 1)
    (hlast : (match T.2[m]? with | some r => (List.range m).all (fun j => r.1.contains j) | none => false) = true)
    (hps : (ps.all (fun p => decide (p.2 < m + 1) && onceB ps p.1 p.2)) = true)
    (hfold : ps.foldl (fun l p => l.set p.2 true) (List.replicate (m + 1) false) = List.replicate m true ++ [false])
    (h0 : NJ (List.replicate (m + 1) false) V0 w)
    (hend : ∀ V w', NJ (List.replicate m true ++ [false]) V w' → wpAnyLast P .any ops Q S ds 1 (List.replicate m true ++ [false]).toArray (putAll a (ps.map (fun p => (p.1, V p.2)))) w')
    (hstep : ∀ (l : List Bool) V w', l.length = m + 1 → NJ l V w' → ∀ i, i < m → l.getD i true = false → (∀ r, T.2[i]? = some r → ∀ j ∈ r.1, l.getD j false = true) →
      ∃ o, ops[i]? = some o ∧ ∃ N, o.dst = some N ∧ onceB ps N i = true ∧ ∀ K' : Act → World → Prop, (∀ v w1, NJ (l.set i true) (setV V i v) w1 → K' ((updA a (slotOf ps) l V).put (some N) v) w1) →
        if Region.wanted o (yielded ops (updA a (slotOf ps) l V).tmps) = true then Oper.wp P o (updA a (slotOf ps) l V) w' K' Q else K' ((updA a (slotOf ps) l V).put o.dst undef) w') :
    wpAnyLast P .any ops Q S ds (m + 1) (List.replicate (m + 1) false).toArray a w := by
  refine last_inv hS hT hl m hm hlast (fun l a' w' => ∃ V, a' = updA a (slotOf ps) l V ∧ NJ l V w') ?_ ?_ m _ a w (by simp) (by simp [List.getD_eq_getElem?_getD]) (by simp) ⟨V0, (updA_start a _ (m + 1) V0).symm, by simpa using h0⟩
  · rintro a' w' ⟨V, rfl, hV⟩
    have := hend V w' hV
    rw [← updA_start a (slotOf ps) (m + 1) V, putAll_upd a (slotOf ps) V ps _ (fun p hp => ?_), hfold] at this
    · exact this
    · have := List.all_eq_true.1 hps p hp
      rw [Bool.and_eq_true] at this
      obtain ⟨h1, h2⟩ := this
      exact ⟨by simpa using h1, (once_slot h2).1, (once_slot h2).2⟩
  · rintro l a' w' hn ⟨V, rfl, hV⟩ i hi hf hd
    obtain ⟨o, ho, N, hN, hon, hst⟩ := hstep l V w' hn hV i hi hf hd
    refine wpOp_step ho (fun K' hK => hst K' (fun v w1 hv => ?_))
    refine hK _ _ ⟨setV V i v, ?_, hv⟩
    obtain ⟨q1, q2⟩ := once_slot hon
    exact updA_put a _ l V i N v (by omega) q1 q2
/-- What holds in l06New's first region when the operations of l have come up. -/
def NJ (w : World) (gb : Nat) (y : List Int) (yb : List S77) (t : Nat → List Bool) (l : List Bool) (V : Nat → Value) (w' : World) : Prop :=
  Below w.heap.size w w' ∧ w'.heap[gb]? = some (.cells #[.slice none 0 0, .slice none 0 0, .slice none 0 0, .slice none 0 0, .slice none 0 0, .slice none 0 0, .int .i64 0] 31 (0, 0)) ∧
  (l.getD 0 false = true → Kd.R (Kd.int .i64) 3 w' w.heap.size (fun _ => True) (V 0) y) ∧
  (l.getD 1 false = true → Kd.R k77 77 w' w.heap.size (fun _ => True) (V 1) yb) ∧
  (∀ j, j < 4 → l.getD (j + 2) false = true → Kd.R Kd.bool 4 w' w.heap.size (fun _ => True) (V (j + 2)) (t j)) ∧
  (∀ i j, i < 4 → j < 4 → i ≠ j → l.getD (i + 2) false = true → l.getD (j + 2) false = true → ∀ k, (V (i + 2)).ownBlock = some k → some k ≠ (V (j + 2)).ownBlock) ∧
  (l.getD 6 false = true → (∀ j, j < 6 → l.getD j false = true) ∧ V 6 = .agg #[V 0, V 1, V 2, V 3, V 4, V 5, .int .i64 0]) ∧
  (l.getD 7 false = true → ∃ g, V 7 = .pointer (some ⟨g, 0, none⟩) ∧ w'.heap[g]? = some (.cells #[.slice none 0 0, .slice none 0 0, .slice none 0 0, .slice none 0 0, .slice none 0 0, .slice none 0 0, .int .i64 0] 31 (0, 0)) ∧ w.heap.size ≤ g ∧ gb ≠ g)
theorem getD_set_same {l : List Bool} {i : Nat} (h : i < l.length) : (l.set i true).getD i false = true := by simp [List.getD_eq_getElem?_getD, h]
theorem getD_set_ne {l : List Bool} {i j : Nat} (h : j ≠ i) : (l.set i true).getD j false = l.getD j false := by simp only [List.getD_eq_getElem?_getD, List.getElem?_set_ne (Ne.symm h)]
section
variable {w w' w1 : World} {gb : Nat} {y : List Int} {yb : List S77} {t : Nat → List Bool} {l : List Bool} {V : Nat → Value} {v : Value}
/-- One of the first two makers, or the box. -/
theorem NJ.other (h : NJ w gb y yb t l V w') (hn : l.length = 9) (hb : Below w'.heap.size w' w1) (i : Nat) (hi : i < 9) (h6 : i ≠ 6) (hf : l.getD i false = false)
    (h0 : i = 0 → Kd.R (Kd.int .i64) 3 w1 w.heap.size (fun _ => True) v y) (h1 : i = 1 → Kd.R k77 77 w1 w.heap.size (fun _ => True) v yb)
    (h2 : ∀ j, j < 4 → i = j + 2 → Kd.R Kd.bool 4 w1 w'.heap.size (fun _ => True) v (t j))
    (h7 : i = 7 → ∃ g, v = .pointer (some ⟨g, 0, none⟩) ∧ w1.heap[g]? = some (.cells #[.slice none 0 0, .slice none 0 0, .slice none 0 0, .slice none 0 0, .slice none 0 0, .slice none 0 0, .int .i64 0] 31 (0, 0)) ∧ w.heap.size ≤ g ∧ gb ≠ g) :
    NJ w gb y yb t (l.set i true) (setV V i v) w1 := by
  obtain ⟨hB, hg, g0, g1, g2, g3, g6, g7⟩ := h
  have no6 : l.getD 6 false = true → i < 6 → False := fun c ci => by
    have := (g6 c).1 i ci
    rw [hf] at this
    cases this
  refine ⟨below_step hB hb, blk_below hg hb, fun c => ?_, fun c => ?_, fun j hj c => ?_, fun a b ha hb2 hab ca cb k hk => ?_, fun c => ?_, fun c => ?_⟩
  · by_cases e : 0 = i
    · subst e; rw [setV_same]; exact h0 rfl
    · rw [getD_set_ne e] at c; rw [setV_other V v e]; exact Kd.R_below (g0 c) hb
  · by_cases e : 1 = i
    · subst e; rw [setV_same]; exact h1 rfl
    · rw [getD_set_ne e] at c; rw [setV_other V v e]; exact Kd.R_below (g1 c) hb
  · by_cases e : j + 2 = i
    · subst e; rw [setV_same]; exact Kd.R_lower (h2 j hj rfl) hB.size
    · rw [getD_set_ne e] at c; rw [setV_other V v e]; exact Kd.R_below (g2 j hj c) hb
  · by_cases e : a + 2 = i
    · have e2 : b + 2 ≠ i := by omega
      rw [getD_set_ne e2] at cb
      rw [setV_other V v e2]
      subst e
      rw [setV_same] at hk
      have k1 := Kd.R_base (h2 a ha rfl) k hk
      intro he
      have k2 := Kd.R_lt (g2 b hb2 cb) k he.symm
      omega
    · rw [getD_set_ne e] at ca
      rw [setV_other V v e] at hk
      by_cases e2 : b + 2 = i
      · subst e2
        rw [setV_same]
        intro he
        have k1 := Kd.R_base (h2 b hb2 rfl) k he.symm
        have k2 := Kd.R_lt (g2 a ha ca) k hk
        omega
      · rw [getD_set_ne e2] at cb
        rw [setV_other V v e2]
        exact g3 a b ha hb2 hab ca cb k hk
  · have e : (6 : Nat) ≠ i := Ne.symm h6
    rw [getD_set_ne e] at c
    obtain ⟨q1, q2⟩ := g6 c
    have hi6 : ¬ i < 6 := fun ci => no6 c ci
    refine ⟨fun j hj => ?_, ?_⟩
    · rw [getD_set_ne (by omega)]; exact q1 j hj
    · rw [setV_other V v e, q2, setV_other V v (by omega), setV_other V v (by omega), setV_other V v (by omega), setV_other V v (by omega), setV_other V v (by omega), setV_other V v (by omega)]
  · by_cases e : 7 = i
    · subst e; rw [setV_same]; exact h7 rfl
    · rw [getD_set_ne e] at c; rw [setV_other V v e]
      obtain ⟨g, q1, q2, q3⟩ := g7 c
      exact ⟨g, q1, blk_below q2 hb, q3⟩
theorem NJ.build (h : NJ w gb y yb t l V w') (hn : l.length = 9) (hd : ∀ j, j < 6 → l.getD j false = true) : NJ w gb y yb t (l.set 6 true) (setV V 6 (.agg #[V 0, V 1, V 2, V 3, V 4, V 5, .int .i64 0])) w' := by
  obtain ⟨hB, hg, g0, g1, g2, g3, g6, g7⟩ := h
  have so : ∀ j, j < 6 → setV V 6 (.agg #[V 0, V 1, V 2, V 3, V 4, V 5, .int .i64 0]) j = V j := fun j hj => setV_other V _ (by omega)
  refine ⟨hB, hg, fun c => ?_, fun c => ?_, fun j hj c => ?_, fun a b ha hb2 hab ca cb k hk => ?_, fun c => ⟨fun j hj => ?_, ?_⟩, fun c => ?_⟩
  · rw [getD_set_ne (by decide)] at c; rw [so 0 (by decide)]; exact g0 c
  · rw [getD_set_ne (by decide)] at c; rw [so 1 (by decide)]; exact g1 c
  · rw [getD_set_ne (by omega)] at c; rw [so _ (by omega)]; exact g2 j hj c
  · rw [getD_set_ne (by omega)] at ca cb; rw [so _ (by omega)] at hk; rw [so _ (by omega)]; exact g3 a b ha hb2 hab ca cb k hk
  · rw [getD_set_ne (by omega)]; exact hd j hj
  · rw [setV_same, so 0 (by decide), so 1 (by decide), so 2 (by decide), so 3 (by decide), so 4 (by decide), so 5 (by decide)]
  · rw [getD_set_ne (by decide)] at c; rw [setV_other V _ (by decide)]; exact g7 c
end
set_option maxHeartbeats 4000000 in
set_option maxRecDepth 100000 in
theorem l06New_region {Q : Exit → Act → World → Prop} {a : Act} {w w8 : World} {gb : Nat} (k : Nat) (t : Nat → List Bool) (ha : a.tmps.size = 29) (hA : ∀ j, j < 4 → spec_l06Bools.f k 8 = some (t j)) (hB : Below w.heap.size w w8)
    (hg : w8.heap[gb]? = some (.cells #[.slice none 0 0, .slice none 0 0, .slice none 0 0, .slice none 0 0, .slice none 0 0, .slice none 0 0, .int .i64 0] 31 (0, 0)))
    (hend : ∀ (v0 v1 v2 v3 v4 v5 : Value) (g : Nat) (w' : World), NJ w gb (List.replicate 16 0) [] t (List.replicate 8 true ++ [false]) (fun j => [v0, v1, v2, v3, v4, v5, .agg #[v0, v1, v2, v3, v4, v5, .int .i64 0], .pointer (some ⟨g, 0, none⟩)].getD j (.int .i64 0)) w' →
      wpAnyLast Try.prog .any (opsOf Try.f61 1) Q (fun _ => True) [] 1 #[true, true, true, true, true, true, true, true, false] (putAll a [(5, v0), (6, v1), (7, v2), (8, v3), (9, v4), (10, v5), (11, .agg #[v0, v1, v2, v3, v4, v5, .int .i64 0]), (3, .pointer (some ⟨g, 0, none⟩))]) w') :
    wpAnyLast Try.prog .any (opsOf Try.f61 1) Q (fun _ => True) [] 9 #[false, false, false, false, false, false, false, false, false] a w8 := by
  refine makers_ (T := spec_l06New.T1) [(5, 0), (6, 1), (7, 2), (8, 3), (9, 4), (10, 5), (11, 6), (3, 7)] (NJ w gb (List.replicate 16 0) [] t) (fun _ => .int .i64 0) (fun _ => trivial) spec_l06New.tab1 (by decide) 8 rfl (by decide) (by decide) rfl ?_ ?_ ?_
  · refine ⟨hB, hg, ?_, ?_, ?_, ?_, ?_, ?_⟩
    · intro c; cases c
    · intro c; cases c
    · intro j hj c; rw [List.getD_eq_getElem?_getD, List.getElem?_replicate] at c; split at c <;> cases c
    · intro i j _ _ _ c; rw [List.getD_eq_getElem?_getD, List.getElem?_replicate] at c; split at c <;> cases c
    · intro c; cases c
    · intro c; cases c
  · intro V w' h
    obtain ⟨hB', hg', g0, g1, g2, g3, g6, g7⟩ := h
    obtain ⟨g, q1, q2⟩ := g7 rfl
    obtain ⟨_, q6⟩ := g6 rfl
    have := hend (V 0) (V 1) (V 2) (V 3) (V 4) (V 5) g w' ⟨hB', hg', g0, g1, fun j hj c => ?_, fun i j hi hj hij c1 c2 => ?_, fun _ => ⟨(g6 rfl).1, rfl⟩, fun _ => ⟨g, rfl, q2⟩⟩
    · rw [← q6, ← q1] at this
      exact this
    · obtain rfl | rfl | rfl | rfl : j = 0 ∨ j = 1 ∨ j = 2 ∨ j = 3 := by omega
      all_goals exact g2 _ (by decide) c
    · obtain rfl | rfl | rfl | rfl : i = 0 ∨ i = 1 ∨ i = 2 ∨ i = 3 := by omega
      all_goals (obtain rfl | rfl | rfl | rfl : j = 0 ∨ j = 1 ∨ j = 2 ∨ j = 3 := by omega)
      all_goals first | exact absurd rfl hij | exact g3 _ _ (by decide) (by decide) (by decide) c1 c2
  · intro l V w' hn hJ i hi hf hd
    have hff : l.getD i false = false := by
      have hi' : i < l.length := by omega
      rw [List.getD_eq_getElem?_getD, List.getElem?_eq_getElem hi'] at hf ⊢
      simpa using hf
    obtain rfl | rfl | hi3 | rfl | rfl : i = 0 ∨ i = 1 ∨ (∃ j, j < 4 ∧ i = j + 2) ∨ i = 6 ∨ i = 7 := by
      by_cases c : 2 ≤ i ∧ i < 6
      · exact .inr (.inr (.inl ⟨i - 2, by omega, by omega⟩))
      · omega
    · refine ⟨_, rfl, 5, rfl, rfl, fun K' hK => ?_⟩
      refine Kd.R_make_step (Kd.int .i64) _ 3 (by rfl) (N := 5) rfl 22 _ _ rfl 16 rfl rfl Try.underlying22 (.int .i64 0) 8 info3 rfl (by decide) (by omega) 0 (ok := fun _ => True) (okp := fun _ => True) rfl (fun _ hk => hk) trivial (by omega) (by omega) (Below.refl _ _) (Nat.le_refl _) ?_
      intro v w1 ho hb _ _
      exact hK _ _ (hJ.other hn hb 0 (by decide) (by decide) hff (fun _ => Kd.R_lower ho hJ.1.size) (fun c => absurd c (by decide)) (fun j _ c => absurd c (by omega)) (fun c => absurd c (by decide)))
    · refine ⟨_, rfl, 6, rfl, rfl, fun K' hK => ?_⟩
      refine Kd.R_lit_step k77 _ 77 ?hg (N := 6) ?hd (xs := ([] : List (S77))) (inner := []) (ok := fun _ => True) (okp := fun _ => True) ?hr ?hp (fun _ hk => hk) trivial (Below.refl _ _) (Nat.le_refl _) (by simp) ?_; (case hd => rfl); (case hg => rfl); (case hr => (conv in GetElem.getElem (opsOf _ _) _ _ => whnf); first | (go_simp; done) | (go_simp; rfl)); (case hp => exact (Reps.none _ _))
      intro v w1 ho hb _ _
      exact hK _ _ (hJ.other hn hb 1 (by decide) (by decide) hff (fun c => absurd c (by decide)) (fun _ => Kd.R_lower ho hJ.1.size) (fun j _ c => absurd c (by omega)) (fun c => absurd c (by decide)))
    · obtain ⟨j, hj, rfl⟩ := hi3
      have go : ∀ (K' : Act → World → Prop) (N : Nat), (∀ v w1, NJ w gb (List.replicate 16 0) [] t (l.set (j + 2) true) (setV V (j + 2) v) w1 → K' ((updA a (slotOf [(5, 0), (6, 1), (7, 2), (8, 3), (9, 4), (10, 5), (11, 6), (3, 7)]) l V).put (some N) v) w1) →
          Calls Try.prog 104 #[.int .i64 8] w' fun e w'' => ∃ v, e = .returned v ∧ K' ((updA a (slotOf [(5, 0), (6, 1), (7, 2), (8, 3), (9, 4), (10, 5), (11, 6), (3, 7)]) l V).put (some N) v) w'' := by
        intro K' N hK
        refine (spec_l06Bools.calls k 8 (t j) _ (hA j hj)).mono ?_
        rintro e w1 ⟨v, rfl, ho, hb⟩
        exact ⟨_, rfl, hK _ _ (hJ.other hn hb (j + 2) (by omega) (by omega) hff (fun c => absurd c (by omega)) (fun c => absurd c (by omega)) (fun j2 _ c => by obtain rfl : j = j2 := (by omega); exact ho) (fun c => absurd c (by omega)))⟩
      obtain rfl | rfl | rfl | rfl : j = 0 ∨ j = 1 ∨ j = 2 ∨ j = 3 := by omega
      · exact ⟨_, rfl, 7, rfl, rfl, fun K' hK => goes_ Try.func104 (by kernel_rfl) rfl #[.int .i64 8] (by rfl) rfl rfl (by simp only [List.map_toArray, List.map_cons, List.map_nil]; rfl) (go K' 7 hK)⟩
      · exact ⟨_, rfl, 8, rfl, rfl, fun K' hK => goes_ Try.func104 (by kernel_rfl) rfl #[.int .i64 8] (by rfl) rfl rfl (by simp only [List.map_toArray, List.map_cons, List.map_nil]; rfl) (go K' 8 hK)⟩
      · exact ⟨_, rfl, 9, rfl, rfl, fun K' hK => goes_ Try.func104 (by kernel_rfl) rfl #[.int .i64 8] (by rfl) rfl rfl (by simp only [List.map_toArray, List.map_cons, List.map_nil]; rfl) (go K' 9 hK)⟩
      · exact ⟨_, rfl, 10, rfl, rfl, fun K' hK => goes_ Try.func104 (by kernel_rfl) rfl #[.int .i64 8] (by rfl) rfl rfl (by simp only [List.map_toArray, List.map_cons, List.map_nil]; rfl) (go K' 10 hK)⟩
    · refine ⟨_, rfl, 11, rfl, rfl, fun K' hK => ?_⟩
      have hd6 : ∀ j, j < 6 → l.getD j false = true := fun j hj => hd _ rfl j (by simp; omega)
      have e0 := updA_tmp a (slotOf [(5, 0), (6, 1), (7, 2), (8, 3), (9, 4), (10, 5), (11, 6), (3, 7)]) l V 0 5 (by omega) rfl (hd6 0 (by decide))
      have e1 := updA_tmp a (slotOf [(5, 0), (6, 1), (7, 2), (8, 3), (9, 4), (10, 5), (11, 6), (3, 7)]) l V 1 6 (by omega) rfl (hd6 1 (by decide))
      have e2 := updA_tmp a (slotOf [(5, 0), (6, 1), (7, 2), (8, 3), (9, 4), (10, 5), (11, 6), (3, 7)]) l V 2 7 (by omega) rfl (hd6 2 (by decide))
      have e3 := updA_tmp a (slotOf [(5, 0), (6, 1), (7, 2), (8, 3), (9, 4), (10, 5), (11, 6), (3, 7)]) l V 3 8 (by omega) rfl (hd6 3 (by decide))
      have e4 := updA_tmp a (slotOf [(5, 0), (6, 1), (7, 2), (8, 3), (9, 4), (10, 5), (11, 6), (3, 7)]) l V 4 9 (by omega) rfl (hd6 4 (by decide))
      have e5 := updA_tmp a (slotOf [(5, 0), (6, 1), (7, 2), (8, 3), (9, 4), (10, 5), (11, 6), (3, 7)]) l V 5 10 (by omega) rfl (hd6 5 (by decide))
      have hb6 := hJ.build hn hd6
      obtain ⟨_, _, g0, g1, g2, _⟩ := hJ
      obtain ⟨A0, c0, x0⟩ := Kd.R_slice (g0 (hd6 0 (by decide)))
      obtain ⟨A1, c1, x1⟩ := Kd.R_slice (g1 (hd6 1 (by decide)))
      obtain ⟨A2, c2, x2⟩ := Kd.R_slice (g2 0 (by decide) (hd6 2 (by decide)))
      obtain ⟨A3, c3, x3⟩ := Kd.R_slice (g2 1 (by decide) (hd6 3 (by decide)))
      obtain ⟨A4, c4, x4⟩ := Kd.R_slice (g2 2 (by decide) (hd6 4 (by decide)))
      obtain ⟨A5, c5, x5⟩ := Kd.R_slice (g2 3 (by decide) (hd6 5 (by decide)))
      have hK6 := hK _ _ hb6
      generalize hU : updA a (slotOf [(5, 0), (6, 1), (7, 2), (8, 3), (9, 4), (10, 5), (11, 6), (3, 7)]) l V = U at e0 e1 e2 e3 e4 e5 hK6 ⊢
      simp only [Nat.zero_add, Nat.reduceAdd] at x0 x1 x2 x3 x4 x5
      rw [x0] at e0
      rw [x1] at e1
      rw [x2] at e2
      rw [x3] at e3
      rw [x4] at e4
      rw [x5] at e5
      rw [x0, x1, x2, x3, x4, x5] at hK6
      simp only [List.length_replicate, List.length_nil] at hK6 e0 e1
      refine value_ (w1 := w') (v := .agg #[.slice A0 16 c0, .slice A1 0 c1, .slice A2 (t 0).length c2, .slice A3 (t 1).length c3, .slice A4 (t 2).length c4, .slice A5 (t 3).length c5, .int .i64 0]) (by rfl) rfl ?_ hK6
      (conv in GetElem.getElem (opsOf _ _) _ _ => whnf)
      simp only [Act.eval, Array.getD_eq_getD_getElem?] at e0 e1 e2 e3 e4 e5
      go_simp
    · refine ⟨_, rfl, 3, rfl, rfl, fun K' hK => ?_⟩
      refine box_step ?hg (N := 3) ?hd (cs := #[.slice none 0 0, .slice none 0 0, .slice none 0 0, .slice none 0 0, .slice none 0 0, .slice none 0 0, .int .i64 0]) (t := 31) ?hr ?_; (case hd => rfl); (case hg => rfl); (case hr => (conv in GetElem.getElem (opsOf _ _) _ _ => whnf); first | (go_simp; done) | (go_simp; rfl))
      intro g hgg w1 hbox hb
      exact hK _ _ (hJ.other hn hb 7 (by decide) (by decide) hff (fun c => absurd c (by decide)) (fun c => absurd c (by decide)) (fun j _ c => absurd c (by omega)) (fun _ => ⟨g, rfl, hbox, by rw [hgg]; exact hJ.1.size, by rw [hgg]; exact Nat.ne_of_lt (blk_lt hJ.2.1)⟩))
set_option maxHeartbeats 8000000 in
set_option maxRecDepth 100000 in
theorem spec_l06New.calls (k : Nat) (A0 : Option Addr) (c0 : Nat) (l0 : List Int) (r1 : List Int) (r2 : List (S77)) (r3 : List Bool) (r4 : List Bool) (r5 : List Bool) (r6 : List Bool) (r7 : Int) (w : World) (hr0 : Kd.C (Kd.int .i64) w A0 l0.length l0) (hc0 : l0.length ≤ c0) (h : spec_l06New.f k l0 = some (r1, r2, r3, r4, r5, r6, r7)) :
    Calls Try.prog 61 #[.slice A0 l0.length c0] w fun e w' => ∃ v0_ v1_ v2_ v3_ v4_ v5_ : Value, e = .returned (.agg #[v0_, v1_, v2_, v3_, v4_, v5_, .int .i64 r7]) ∧ Kd.R (Kd.int .i64) 3 w' w.heap.size (fun _ => True) v0_ r1 ∧ Kd.R k77 77 w' w.heap.size (fun _ => True) v1_ r2 ∧ Kd.R Kd.bool 4 w' w.heap.size (fun k_ => some k_ ≠ (v3_ : Value).ownBlock ∧ some k_ ≠ (v4_ : Value).ownBlock ∧ some k_ ≠ (v5_ : Value).ownBlock) v2_ r3 ∧ Kd.R Kd.bool 4 w' w.heap.size (fun k_ => some k_ ≠ (v2_ : Value).ownBlock ∧ some k_ ≠ (v4_ : Value).ownBlock ∧ some k_ ≠ (v5_ : Value).ownBlock) v3_ r4 ∧ Kd.R Kd.bool 4 w' w.heap.size (fun k_ => some k_ ≠ (v2_ : Value).ownBlock ∧ some k_ ≠ (v3_ : Value).ownBlock ∧ some k_ ≠ (v5_ : Value).ownBlock) v4_ r5 ∧ Kd.R Kd.bool 4 w' w.heap.size (fun k_ => some k_ ≠ (v2_ : Value).ownBlock ∧ some k_ ≠ (v3_ : Value).ownBlock ∧ some k_ ≠ (v4_ : Value).ownBlock) v5_ r6 ∧ Below w.heap.size w w' := by
  have hu31 := Try.underlying31
  have hu77 := Try.underlying77
  have HR0 := Aside0.mk hr0
  have HC0 := Aside0.mk hc0
  clear hr0 hc0
  have HB := Aside0.mk (Below.refl w.heap.size w)
  have H : (if 16 ≤ 35184372088832 then ((spec_l06Bools.f k 8).bind fun t134 => ((spec_l06Bools.f k 8).bind fun t137 => ((spec_l06Bools.f k 8).bind fun t140 => ((spec_l06Bools.f k 8).bind fun t143 => (spec_l06New.l0 k l0 0 (List.replicate 16 0) (([] : List (S77))) t134 t137 t140 t143 0))))) else (none)) = some (r1, r2, r3, r4, r5, r6, r7) := h
  clear h
  by_cases c2 : 16 ≤ 35184372088832
  · rw [if_pos c2] at H
    have c2b0 := eq_true c2
    have c2b1 : decide (16 ≤ 35184372088832) = true := decide_eq_true c2
    clear c2
    obtain ⟨y128, hy128⟩ : ∃ y_ : List Int, y_ = (List.replicate 16 0) := ⟨_, rfl⟩
    replace H : ((spec_l06Bools.f k 8).bind fun t134 => ((spec_l06Bools.f k 8).bind fun t137 => ((spec_l06Bools.f k 8).bind fun t140 => ((spec_l06Bools.f k 8).bind fun t143 => (spec_l06New.l0 k l0 0 y128 (([] : List (S77))) t134 t137 t140 t143 0))))) = some (r1, r2, r3, r4, r5, r6, r7) := by first | (rw [hy128]; with_reducible exact H) | (have H2_ := (Option.bind_some _ _).symm.trans H; rw [hy128]; with_reducible exact H2_) | (have H2_ := (Option.bind_some _ _).symm.trans H; with_reducible exact H2_) | with_reducible exact H | (rw [hy128]; exact H) | exact H
    have Ny128 := Aside0.mk hy128
    clear hy128
    obtain ⟨y131, hy131⟩ : ∃ y_ : List (S77), y_ = (([] : List (S77))) := ⟨_, rfl⟩
    replace H : ((spec_l06Bools.f k 8).bind fun t134 => ((spec_l06Bools.f k 8).bind fun t137 => ((spec_l06Bools.f k 8).bind fun t140 => ((spec_l06Bools.f k 8).bind fun t143 => (spec_l06New.l0 k l0 0 y128 y131 t134 t137 t140 t143 0))))) = some (r1, r2, r3, r4, r5, r6, r7) := by first | (rw [hy131]; with_reducible exact H) | (have H2_ := (Option.bind_some _ _).symm.trans H; rw [hy131]; with_reducible exact H2_) | (have H2_ := (Option.bind_some _ _).symm.trans H; with_reducible exact H2_) | with_reducible exact H | (rw [hy131]; exact H) | exact H
    have Ny131 := Aside0.mk hy131
    clear hy131
    replace H := Option.bind_eq_some_iff.mp H
    obtain ⟨t134, A30, H⟩ := H
    replace H : ((spec_l06Bools.f k 8).bind fun t137 => ((spec_l06Bools.f k 8).bind fun t140 => ((spec_l06Bools.f k 8).bind fun t143 => (spec_l06New.l0 k l0 0 y128 y131 t134 t137 t140 t143 0)))) = some (r1, r2, r3, r4, r5, r6, r7) := H
    have A3 := Aside0.mk A30
    clear A30
    replace H := Option.bind_eq_some_iff.mp H
    obtain ⟨t137, A40, H⟩ := H
    replace H : ((spec_l06Bools.f k 8).bind fun t140 => ((spec_l06Bools.f k 8).bind fun t143 => (spec_l06New.l0 k l0 0 y128 y131 t134 t137 t140 t143 0))) = some (r1, r2, r3, r4, r5, r6, r7) := H
    have A4 := Aside0.mk A40
    clear A40
    replace H := Option.bind_eq_some_iff.mp H
    obtain ⟨t140, A50, H⟩ := H
    replace H : ((spec_l06Bools.f k 8).bind fun t143 => (spec_l06New.l0 k l0 0 y128 y131 t134 t137 t140 t143 0)) = some (r1, r2, r3, r4, r5, r6, r7) := H
    have A5 := Aside0.mk A50
    clear A50
    replace H := Option.bind_eq_some_iff.mp H
    obtain ⟨t143, A60, H⟩ := H
    replace H : (spec_l06New.l0 k l0 0 y128 y131 t134 t137 t140 t143 0) = some (r1, r2, r3, r4, r5, r6, r7) := H
    have A6 := Aside0.mk A60
    clear A60
    have H' := Aside0.mk H
    clear H
    go_enter Try.func61, Try.ntmps61
    try go_wp2_with (first | ((with_reducible refine gate_dst (N := 2) rfl ?_); refine box_event ?hg (N := 2) ?hd (cs := #[.slice none 0 0, .slice none 0 0, .slice none 0 0, .slice none 0 0, .slice none 0 0, .slice none 0 0, .int .i64 0]) (t := 31) ?hr ?_; (case hd => rfl); (case hg => rfl); (case hr => first | (go_simp; done) | (go_simp; rfl)); intro gb127 hg w7 hbox hb; have n0_ := Aside0.mk (below_step (by repeat (first | (with_reducible first | exact HB.out | apply below_alloc | apply pw_below_drewN | apply below_drew1) | exact HB.out)) hb); have n1_ := Aside0.mk (hbox); have n2_ := Aside0.mk ((by rw [hg]; exact (below_size (by repeat (first | (with_reducible first | exact HB.out | apply below_alloc | apply pw_below_drewN | apply below_drew1) | exact HB.out))) : w.heap.size ≤ gb127)); have n3_ := Aside0.mk ((by rw [hg]; exact (below_size (by repeat (first | (with_reducible first | exact HB.out | apply below_alloc | apply pw_below_drewN | apply below_drew1) | exact HB.out))) : w.heap.size ≤ gb127)); clear HB; have HB := n0_; have BK127 := n1_; have GW127 := n2_; have GE127 := n3_; clear n0_ n1_ n2_ n3_; clear hb hbox hg))
    have n0_ := Aside0.mk (blk_drew BK127.out)
    have n1_ := Aside0.mk (below_drew1 HB.out)
    clear BK127
    clear HB
    have BK127 := n0_
    have HB := n1_
    clear n0_ n1_
    refine start_ (n := 9) (S := fun w' => True) (ds := []) #[false, false, false, false, false, false, false, false, false] (by kernel_rfl) rfl rfl trivial (fun hHeld => ?_); refine with_tabW spec_l06New.tab1 spec_l06New.bits1 (fun HT_ HW_ => ?_)
    generalize w7.drew = w8 at BK127 HB hHeld ⊢
    refine join_ (σ := Value × Value × Value × Value × Value × Value × Nat) 1 #[true, true, true, true, true, true, true, true, false] (fun s_ => [(5, s_.1), (6, s_.2.1), (7, s_.2.2.1), (8, s_.2.2.2.1), (9, s_.2.2.2.2.1), (10, s_.2.2.2.2.2.1), (3, .pointer (some ⟨s_.2.2.2.2.2.2, 0, none⟩)), (11, .agg #[s_.1, s_.2.1, s_.2.2.1, s_.2.2.2.1, s_.2.2.2.2.1, s_.2.2.2.2.2.1, .int .i64 0])]) (fun s_ w' => (Kd.R (Kd.int .i64) 3 w' w.heap.size (fun _ => True) s_.1 y128) ∧ (Kd.R k77 77 w' w.heap.size (fun _ => True) s_.2.1 y131) ∧ (Kd.R Kd.bool 4 w' w.heap.size (fun k_ => some k_ ≠ (s_.2.2.2.1 : Value).ownBlock ∧ some k_ ≠ (s_.2.2.2.2.1 : Value).ownBlock ∧ some k_ ≠ (s_.2.2.2.2.2.1 : Value).ownBlock) s_.2.2.1 t134) ∧ (Kd.R Kd.bool 4 w' w.heap.size (fun k_ => some k_ ≠ (s_.2.2.1 : Value).ownBlock ∧ some k_ ≠ (s_.2.2.2.2.1 : Value).ownBlock ∧ some k_ ≠ (s_.2.2.2.2.2.1 : Value).ownBlock) s_.2.2.2.1 t137) ∧ (Kd.R Kd.bool 4 w' w.heap.size (fun k_ => some k_ ≠ (s_.2.2.1 : Value).ownBlock ∧ some k_ ≠ (s_.2.2.2.1 : Value).ownBlock ∧ some k_ ≠ (s_.2.2.2.2.2.1 : Value).ownBlock) s_.2.2.2.2.1 t140) ∧ (Kd.R Kd.bool 4 w' w.heap.size (fun k_ => some k_ ≠ (s_.2.2.1 : Value).ownBlock ∧ some k_ ≠ (s_.2.2.2.1 : Value).ownBlock ∧ some k_ ≠ (s_.2.2.2.2.1 : Value).ownBlock) s_.2.2.2.2.2.1 t143) ∧ (w'.heap[gb127]? = some (.cells #[.slice none 0 0, .slice none 0 0, .slice none 0 0, .slice none 0 0, .slice none 0 0, .slice none 0 0, .int .i64 0] 31 (0, 0))) ∧ (w'.heap[s_.2.2.2.2.2.2]? = some (.cells #[.slice none 0 0, .slice none 0 0, .slice none 0 0, .slice none 0 0, .slice none 0 0, .slice none 0 0, .int .i64 0] 31 (0, 0))) ∧ (w.heap.size ≤ s_.2.2.2.2.2.2) ∧ (w.heap.size ≤ s_.2.2.2.2.2.2) ∧ (gb127 ≠ s_.2.2.2.2.2.2) ∧ (s_.2.2.2.2.2.2 ≠ gb127) ∧ (Below w.heap.size w w')) ?_ ?_
    rotate_left
    · intro hJ
      refine l06New_region k (fun j => match j with | 0 => t134 | 1 => t137 | 2 => t140 | _ => t143) rfl ?_ HB.out BK127.out ?_
      · intro j hj
        obtain rfl | rfl | rfl | rfl : j = 0 ∨ j = 1 ∨ j = 2 ∨ j = 3 := by omega
        · exact A3.out
        · exact A4.out
        · exact A5.out
        · exact A6.out
      · intro v0 v1 v2 v3 v4 v5 g w' h
        obtain ⟨hB', hg', g0, g1, g2, g3, _, g7⟩ := h
        obtain ⟨g', q1, q2, q3, q4⟩ := g7 rfl
        obtain rfl : g = g' := by injection q1 with q1; injection q1 with q1; injection q1
        exact hJ (v0, v1, v2, v3, v4, v5, g) w' ⟨by rw [Ny128.out]; exact g0 rfl, by rw [Ny131.out]; exact g1 rfl,
          Kd.R_reok rfl (g2 0 (by decide) rfl) (fun k hk => ⟨g3 0 1 (by decide) (by decide) (by decide) rfl rfl k hk, g3 0 2 (by decide) (by decide) (by decide) rfl rfl k hk, g3 0 3 (by decide) (by decide) (by decide) rfl rfl k hk⟩),
          Kd.R_reok rfl (g2 1 (by decide) rfl) (fun k hk => ⟨g3 1 0 (by decide) (by decide) (by decide) rfl rfl k hk, g3 1 2 (by decide) (by decide) (by decide) rfl rfl k hk, g3 1 3 (by decide) (by decide) (by decide) rfl rfl k hk⟩),
          Kd.R_reok rfl (g2 2 (by decide) rfl) (fun k hk => ⟨g3 2 0 (by decide) (by decide) (by decide) rfl rfl k hk, g3 2 1 (by decide) (by decide) (by decide) rfl rfl k hk, g3 2 3 (by decide) (by decide) (by decide) rfl rfl k hk⟩),
          Kd.R_reok rfl (g2 3 (by decide) rfl) (fun k hk => ⟨g3 3 0 (by decide) (by decide) (by decide) rfl rfl k hk, g3 3 1 (by decide) (by decide) (by decide) rfl rfl k hk, g3 3 2 (by decide) (by decide) (by decide) rfl rfl k hk⟩),
          hg', q2, q3, q3, q4, Ne.symm q4, hB'⟩
    rintro ⟨v129, v132, v135, v138, v141, v144, gb146⟩ w24 ⟨h0_, h1_, h2_, h3_, h4_, h5_, h6_, h7_, h8_, h9_, h10_, h11_, h12_⟩
    have n0_ : Aside0 (Kd.R (Kd.int .i64) 3 w24 w.heap.size (fun _ => True) v129 y128) := ⟨h0_⟩
    have n1_ : Aside0 (Kd.R k77 77 w24 w.heap.size (fun _ => True) v132 y131) := ⟨h1_⟩
    have n2_ : Aside0 (Kd.R Kd.bool 4 w24 w.heap.size (fun k_ => some k_ ≠ (v138 : Value).ownBlock ∧ some k_ ≠ (v141 : Value).ownBlock ∧ some k_ ≠ (v144 : Value).ownBlock) v135 t134) := ⟨h2_⟩
    have n3_ : Aside0 (Kd.R Kd.bool 4 w24 w.heap.size (fun k_ => some k_ ≠ (v135 : Value).ownBlock ∧ some k_ ≠ (v141 : Value).ownBlock ∧ some k_ ≠ (v144 : Value).ownBlock) v138 t137) := ⟨h3_⟩
    have n4_ : Aside0 (Kd.R Kd.bool 4 w24 w.heap.size (fun k_ => some k_ ≠ (v135 : Value).ownBlock ∧ some k_ ≠ (v138 : Value).ownBlock ∧ some k_ ≠ (v144 : Value).ownBlock) v141 t140) := ⟨h4_⟩
    have n5_ : Aside0 (Kd.R Kd.bool 4 w24 w.heap.size (fun k_ => some k_ ≠ (v135 : Value).ownBlock ∧ some k_ ≠ (v138 : Value).ownBlock ∧ some k_ ≠ (v141 : Value).ownBlock) v144 t143) := ⟨h5_⟩
    have n6_ : Aside0 (w24.heap[gb127]? = some (.cells #[.slice none 0 0, .slice none 0 0, .slice none 0 0, .slice none 0 0, .slice none 0 0, .slice none 0 0, .int .i64 0] 31 (0, 0))) := ⟨h6_⟩
    have n7_ : Aside0 (w24.heap[gb146]? = some (.cells #[.slice none 0 0, .slice none 0 0, .slice none 0 0, .slice none 0 0, .slice none 0 0, .slice none 0 0, .int .i64 0] 31 (0, 0))) := ⟨h7_⟩
    have n8_ : Aside0 (w.heap.size ≤ gb146) := ⟨h8_⟩
    have n9_ : Aside0 (w.heap.size ≤ gb146) := ⟨h9_⟩
    have n10_ : Aside0 (gb127 ≠ gb146) := ⟨h10_⟩
    have n11_ : Aside0 (gb146 ≠ gb127) := ⟨h11_⟩
    have n12_ : Aside0 (Below w.heap.size w w24) := ⟨h12_⟩
    clear BK127
    clear HB
    clear h0_ h1_ h2_ h3_ h4_ h5_ h6_ h7_ h8_ h9_ h10_ h11_ h12_
    have HO130 := n0_
    have HO133 := n1_
    have HO136 := n2_
    have HO139 := n3_
    have HO142 := n4_
    have HO145 := n5_
    have BK127 := n6_
    have BK146 := n7_
    have GW146 := n8_
    have GE146 := n9_
    have NB127_146 := n10_
    have NB146_127 := n11_
    have HB := n12_
    clear n0_ n1_ n2_ n3_ n4_ n5_ n6_ n7_ n8_ n9_ n10_ n11_ n12_
    have hHeld := trivial
    obtain ⟨Ao25, co25, eo25⟩ := Kd.R_slice HO145.out
    (first | subst eo25 | (injection eo25 with f1_ f2_ f3_; have f4_ := f1_.symm; have f5_ := f3_.symm; clear f1_ f2_ f3_; subst f4_; subst f5_))
    obtain ⟨Ao26, co26, eo26⟩ := Kd.R_slice HO142.out
    (first | subst eo26 | (injection eo26 with f1_ f2_ f3_; have f4_ := f1_.symm; have f5_ := f3_.symm; clear f1_ f2_ f3_; subst f4_; subst f5_))
    obtain ⟨Ao27, co27, eo27⟩ := Kd.R_slice HO139.out
    (first | subst eo27 | (injection eo27 with f1_ f2_ f3_; have f4_ := f1_.symm; have f5_ := f3_.symm; clear f1_ f2_ f3_; subst f4_; subst f5_))
    obtain ⟨Ao28, co28, eo28⟩ := Kd.R_slice HO136.out
    (first | subst eo28 | (injection eo28 with f1_ f2_ f3_; have f4_ := f1_.symm; have f5_ := f3_.symm; clear f1_ f2_ f3_; subst f4_; subst f5_))
    obtain ⟨Ao29, co29, eo29⟩ := Kd.R_slice HO133.out
    (first | subst eo29 | (injection eo29 with f1_ f2_ f3_; have f4_ := f1_.symm; have f5_ := f3_.symm; clear f1_ f2_ f3_; subst f4_; subst f5_))
    obtain ⟨Ao30, co30, eo30⟩ := Kd.R_slice HO130.out
    (first | subst eo30 | (injection eo30 with f1_ f2_ f3_; have f4_ := f1_.symm; have f5_ := f3_.symm; clear f1_ f2_ f3_; subst f4_; subst f5_))
    refine norm_ (a' := ?_) ?_ ?_
    rotate_left
    · simp only [putAll, Act.put, List.setIfInBounds_toArray, List.set_cons_zero, List.set_cons_succ]
      rfl
    refine one_ (i := 8) (N := none) #[true, true, true, true, true, true, true, true, true] rfl rfl (one_of HT_.out (by kernel_rfl)) (by decide) (fun K hK => ?_)
    have hs31 : w24.cell? ⟨gb146, 0, none⟩ = some (.slice none 0 0) := (blk_cell BK146.out 0).trans rfl
    have hfs31 := blk_frozen BK146.out 0
    have hns31_0 := NB127_146.out
    have hms31_0 := NB146_127.out
    have hs32 : w24.cell? ⟨gb146, 1, none⟩ = some (.slice none 0 0) := (blk_cell BK146.out 1).trans rfl
    have hfs32 := blk_frozen BK146.out 1
    have hns32_0 := NB127_146.out
    have hms32_0 := NB146_127.out
    have hs33 : w24.cell? ⟨gb146, 2, none⟩ = some (.slice none 0 0) := (blk_cell BK146.out 2).trans rfl
    have hfs33 := blk_frozen BK146.out 2
    have hns33_0 := NB127_146.out
    have hms33_0 := NB146_127.out
    have hs34 : w24.cell? ⟨gb146, 3, none⟩ = some (.slice none 0 0) := (blk_cell BK146.out 3).trans rfl
    have hfs34 := blk_frozen BK146.out 3
    have hns34_0 := NB127_146.out
    have hms34_0 := NB146_127.out
    have hs35 : w24.cell? ⟨gb146, 4, none⟩ = some (.slice none 0 0) := (blk_cell BK146.out 4).trans rfl
    have hfs35 := blk_frozen BK146.out 4
    have hns35_0 := NB127_146.out
    have hms35_0 := NB146_127.out
    have hs36 : w24.cell? ⟨gb146, 5, none⟩ = some (.slice none 0 0) := (blk_cell BK146.out 5).trans rfl
    have hfs36 := blk_frozen BK146.out 5
    have hns36_0 := NB127_146.out
    have hms36_0 := NB146_127.out
    have hs37 : w24.cell? ⟨gb146, 6, none⟩ = some (.int .i64 0) := (blk_cell BK146.out 6).trans rfl
    have hfs37 := blk_frozen BK146.out 6
    have hns37_0 := NB127_146.out
    have hms37_0 := NB146_127.out
    refine skip_ (w1 := ?_) (by rfl) rfl ?_ ?_
    rotate_left
    · go_simp
      rfl
    refine hK.out _ _ trivial (fun hHeld => ?_)
    clear hK K
    refine done_ (done_of HT_.out (by kernel_rfl)) ?_
    try go_wp2
    go_loopg [4] k (fun kq v4 w' => ∃ (x4_1 : Int) (x147001_1 : List (S77)) (u147001 : Value), v4 = .int .i64 x4_1 ∧ Aside0 (spec_l06New.l0 kq l0 x4_1 y128 x147001_1 t134 t137 t140 t143 0 = some (r1, r2, r3, r4, r5, r6, r7)) ∧ Aside0 (kq ≤ k) ∧ Aside0 (Kd.R (Kd.int .i64) 3 w' w.heap.size (fun _ => True) (.slice Ao30 y128.length co30) y128) ∧ Aside0 (Kd.R k77 77 w' w.heap.size (fun _ => True) u147001 x147001_1) ∧ Aside0 (Kd.R Kd.bool 4 w' w.heap.size (fun k_ => some k_ ≠ ((.slice Ao27 t137.length co27) : Value).ownBlock ∧ some k_ ≠ ((.slice Ao26 t140.length co26) : Value).ownBlock ∧ some k_ ≠ ((.slice Ao25 t143.length co25) : Value).ownBlock) (.slice Ao28 t134.length co28) t134) ∧ Aside0 (Kd.R Kd.bool 4 w' w.heap.size (fun k_ => some k_ ≠ ((.slice Ao28 t134.length co28) : Value).ownBlock ∧ some k_ ≠ ((.slice Ao26 t140.length co26) : Value).ownBlock ∧ some k_ ≠ ((.slice Ao25 t143.length co25) : Value).ownBlock) (.slice Ao27 t137.length co27) t137) ∧ Aside0 (Kd.R Kd.bool 4 w' w.heap.size (fun k_ => some k_ ≠ ((.slice Ao28 t134.length co28) : Value).ownBlock ∧ some k_ ≠ ((.slice Ao27 t137.length co27) : Value).ownBlock ∧ some k_ ≠ ((.slice Ao25 t143.length co25) : Value).ownBlock) (.slice Ao26 t140.length co26) t140) ∧ Aside0 (Kd.R Kd.bool 4 w' w.heap.size (fun k_ => some k_ ≠ ((.slice Ao28 t134.length co28) : Value).ownBlock ∧ some k_ ≠ ((.slice Ao27 t137.length co27) : Value).ownBlock ∧ some k_ ≠ ((.slice Ao26 t140.length co26) : Value).ownBlock) (.slice Ao25 t143.length co25) t143) ∧ Aside0 (w'.heap[gb127]? = some (.cells #[(.slice none 0 0), (.slice none 0 0), (.slice none 0 0), (.slice none 0 0), (.slice none 0 0), (.slice none 0 0), .int .i64 0] 31 (0, 0))) ∧ Aside0 (w'.heap[gb146]? = some (.cells #[(.slice Ao30 y128.length co30), u147001, (.slice Ao28 t134.length co28), (.slice Ao27 t137.length co27), (.slice Ao26 t140.length co26), (.slice Ao25 t143.length co25), .int .i64 0] 31 (0, 0))) ∧ Aside0 (Below w.heap.size w w'))
    case atStart => exact ⟨(0), (y131), (.slice Ao29 y131.length co29), (by first | rfl | (simp; done) | (simp [*]; done)), H', ⟨Nat.le_refl _⟩, ⟨by (with_reducible repeat (first | apply Kd.R_alloc | apply Kd.R_drewN | apply Kd.R_drew)); exact Kd.R_mono (Kd.R_far (p := ⟨gb146, 6, none⟩) (Kd.R_far (p := ⟨gb146, 5, none⟩) (Kd.R_far (p := ⟨gb146, 4, none⟩) (Kd.R_far (p := ⟨gb146, 3, none⟩) (Kd.R_far (p := ⟨gb146, 2, none⟩) (Kd.R_far (p := ⟨gb146, 1, none⟩) (Kd.R_far (p := ⟨gb146, 0, none⟩) (Kd.R_types HO130.out BK146.out (by decide)) (fun _ hk => hk.2) (.slice Ao30 y128.length co30)) (fun _ hk => hk.2) (.slice Ao29 y131.length co29)) (fun _ hk => hk.2) (.slice Ao28 t134.length co28)) (fun _ hk => hk.2) (.slice Ao27 t137.length co27)) (fun _ hk => hk.2) (.slice Ao26 t140.length co26)) (fun _ hk => hk.2) (.slice Ao25 t143.length co25)) (fun _ hk => hk.2) (.int .i64 0)) (fun _ hk => trivial)⟩, ⟨by (with_reducible repeat (first | apply Kd.R_alloc | apply Kd.R_drewN | apply Kd.R_drew)); exact Kd.R_mono (Kd.R_far (p := ⟨gb146, 6, none⟩) (Kd.R_far (p := ⟨gb146, 5, none⟩) (Kd.R_far (p := ⟨gb146, 4, none⟩) (Kd.R_far (p := ⟨gb146, 3, none⟩) (Kd.R_far (p := ⟨gb146, 2, none⟩) (Kd.R_far (p := ⟨gb146, 1, none⟩) (Kd.R_far (p := ⟨gb146, 0, none⟩) (Kd.R_types HO133.out BK146.out (by decide)) (fun _ hk => hk.2) (.slice Ao30 y128.length co30)) (fun _ hk => hk.2) (.slice Ao29 y131.length co29)) (fun _ hk => hk.2) (.slice Ao28 t134.length co28)) (fun _ hk => hk.2) (.slice Ao27 t137.length co27)) (fun _ hk => hk.2) (.slice Ao26 t140.length co26)) (fun _ hk => hk.2) (.slice Ao25 t143.length co25)) (fun _ hk => hk.2) (.int .i64 0)) (fun _ hk => trivial)⟩, ⟨by (with_reducible repeat (first | apply Kd.R_alloc | apply Kd.R_drewN | apply Kd.R_drew)); exact Kd.R_mono (Kd.R_far (p := ⟨gb146, 6, none⟩) (Kd.R_far (p := ⟨gb146, 5, none⟩) (Kd.R_far (p := ⟨gb146, 4, none⟩) (Kd.R_far (p := ⟨gb146, 3, none⟩) (Kd.R_far (p := ⟨gb146, 2, none⟩) (Kd.R_far (p := ⟨gb146, 1, none⟩) (Kd.R_far (p := ⟨gb146, 0, none⟩) (Kd.R_types HO136.out BK146.out (by decide)) (fun _ hk => hk.2) (.slice Ao30 y128.length co30)) (fun _ hk => hk.2) (.slice Ao29 y131.length co29)) (fun _ hk => hk.2) (.slice Ao28 t134.length co28)) (fun _ hk => hk.2) (.slice Ao27 t137.length co27)) (fun _ hk => hk.2) (.slice Ao26 t140.length co26)) (fun _ hk => hk.2) (.slice Ao25 t143.length co25)) (fun _ hk => hk.2) (.int .i64 0)) (fun _ hk => ⟨hk.1.1, ⟨hk.1.2.1, hk.1.2.2⟩⟩)⟩, ⟨by (with_reducible repeat (first | apply Kd.R_alloc | apply Kd.R_drewN | apply Kd.R_drew)); exact Kd.R_mono (Kd.R_far (p := ⟨gb146, 6, none⟩) (Kd.R_far (p := ⟨gb146, 5, none⟩) (Kd.R_far (p := ⟨gb146, 4, none⟩) (Kd.R_far (p := ⟨gb146, 3, none⟩) (Kd.R_far (p := ⟨gb146, 2, none⟩) (Kd.R_far (p := ⟨gb146, 1, none⟩) (Kd.R_far (p := ⟨gb146, 0, none⟩) (Kd.R_types HO139.out BK146.out (by decide)) (fun _ hk => hk.2) (.slice Ao30 y128.length co30)) (fun _ hk => hk.2) (.slice Ao29 y131.length co29)) (fun _ hk => hk.2) (.slice Ao28 t134.length co28)) (fun _ hk => hk.2) (.slice Ao27 t137.length co27)) (fun _ hk => hk.2) (.slice Ao26 t140.length co26)) (fun _ hk => hk.2) (.slice Ao25 t143.length co25)) (fun _ hk => hk.2) (.int .i64 0)) (fun _ hk => ⟨hk.1.1, ⟨hk.1.2.1, hk.1.2.2⟩⟩)⟩, ⟨by (with_reducible repeat (first | apply Kd.R_alloc | apply Kd.R_drewN | apply Kd.R_drew)); exact Kd.R_mono (Kd.R_far (p := ⟨gb146, 6, none⟩) (Kd.R_far (p := ⟨gb146, 5, none⟩) (Kd.R_far (p := ⟨gb146, 4, none⟩) (Kd.R_far (p := ⟨gb146, 3, none⟩) (Kd.R_far (p := ⟨gb146, 2, none⟩) (Kd.R_far (p := ⟨gb146, 1, none⟩) (Kd.R_far (p := ⟨gb146, 0, none⟩) (Kd.R_types HO142.out BK146.out (by decide)) (fun _ hk => hk.2) (.slice Ao30 y128.length co30)) (fun _ hk => hk.2) (.slice Ao29 y131.length co29)) (fun _ hk => hk.2) (.slice Ao28 t134.length co28)) (fun _ hk => hk.2) (.slice Ao27 t137.length co27)) (fun _ hk => hk.2) (.slice Ao26 t140.length co26)) (fun _ hk => hk.2) (.slice Ao25 t143.length co25)) (fun _ hk => hk.2) (.int .i64 0)) (fun _ hk => ⟨hk.1.1, ⟨hk.1.2.1, hk.1.2.2⟩⟩)⟩, ⟨by (with_reducible repeat (first | apply Kd.R_alloc | apply Kd.R_drewN | apply Kd.R_drew)); exact Kd.R_mono (Kd.R_far (p := ⟨gb146, 6, none⟩) (Kd.R_far (p := ⟨gb146, 5, none⟩) (Kd.R_far (p := ⟨gb146, 4, none⟩) (Kd.R_far (p := ⟨gb146, 3, none⟩) (Kd.R_far (p := ⟨gb146, 2, none⟩) (Kd.R_far (p := ⟨gb146, 1, none⟩) (Kd.R_far (p := ⟨gb146, 0, none⟩) (Kd.R_types HO145.out BK146.out (by decide)) (fun _ hk => hk.2) (.slice Ao30 y128.length co30)) (fun _ hk => hk.2) (.slice Ao29 y131.length co29)) (fun _ hk => hk.2) (.slice Ao28 t134.length co28)) (fun _ hk => hk.2) (.slice Ao27 t137.length co27)) (fun _ hk => hk.2) (.slice Ao26 t140.length co26)) (fun _ hk => hk.2) (.slice Ao25 t143.length co25)) (fun _ hk => hk.2) (.int .i64 0)) (fun _ hk => ⟨hk.1.1, ⟨hk.1.2.1, hk.1.2.2⟩⟩)⟩, ⟨by (with_reducible repeat (first | refine blk_drewN ?_ _ | refine blk_drew ?_ | refine blk_alloc ?_ _)); refine blk_far ?_ NB127_146.out _; (with_reducible repeat (first | refine blk_drewN ?_ _ | refine blk_drew ?_ | refine blk_alloc ?_ _)); refine blk_far ?_ NB127_146.out _; (with_reducible repeat (first | refine blk_drewN ?_ _ | refine blk_drew ?_ | refine blk_alloc ?_ _)); refine blk_far ?_ NB127_146.out _; (with_reducible repeat (first | refine blk_drewN ?_ _ | refine blk_drew ?_ | refine blk_alloc ?_ _)); refine blk_far ?_ NB127_146.out _; (with_reducible repeat (first | refine blk_drewN ?_ _ | refine blk_drew ?_ | refine blk_alloc ?_ _)); refine blk_far ?_ NB127_146.out _; (with_reducible repeat (first | refine blk_drewN ?_ _ | refine blk_drew ?_ | refine blk_alloc ?_ _)); refine blk_far ?_ NB127_146.out _; (with_reducible repeat (first | refine blk_drewN ?_ _ | refine blk_drew ?_ | refine blk_alloc ?_ _)); refine blk_far ?_ NB127_146.out _; (with_reducible repeat (first | refine blk_drewN ?_ _ | refine blk_drew ?_ | refine blk_alloc ?_ _)); exact BK127.out⟩, ⟨by (with_reducible repeat (first | refine blk_drewN ?_ _ | refine blk_drew ?_ | refine blk_alloc ?_ _)); refine blk_put (cs := #[.slice Ao30 y128.length co30, .slice Ao29 y131.length co29, .slice Ao28 t134.length co28, .slice Ao27 t137.length co27, .slice Ao26 t140.length co26, .slice Ao25 t143.length co25, .int .i64 0]) ?_ 6 _ rfl; (with_reducible repeat (first | refine blk_drewN ?_ _ | refine blk_drew ?_ | refine blk_alloc ?_ _)); refine blk_put (cs := #[.slice Ao30 y128.length co30, .slice Ao29 y131.length co29, .slice Ao28 t134.length co28, .slice Ao27 t137.length co27, .slice Ao26 t140.length co26, .slice none 0 0, .int .i64 0]) ?_ 5 _ rfl; (with_reducible repeat (first | refine blk_drewN ?_ _ | refine blk_drew ?_ | refine blk_alloc ?_ _)); refine blk_put (cs := #[.slice Ao30 y128.length co30, .slice Ao29 y131.length co29, .slice Ao28 t134.length co28, .slice Ao27 t137.length co27, .slice none 0 0, .slice none 0 0, .int .i64 0]) ?_ 4 _ rfl; (with_reducible repeat (first | refine blk_drewN ?_ _ | refine blk_drew ?_ | refine blk_alloc ?_ _)); refine blk_put (cs := #[.slice Ao30 y128.length co30, .slice Ao29 y131.length co29, .slice Ao28 t134.length co28, .slice none 0 0, .slice none 0 0, .slice none 0 0, .int .i64 0]) ?_ 3 _ rfl; (with_reducible repeat (first | refine blk_drewN ?_ _ | refine blk_drew ?_ | refine blk_alloc ?_ _)); refine blk_put (cs := #[.slice Ao30 y128.length co30, .slice Ao29 y131.length co29, .slice none 0 0, .slice none 0 0, .slice none 0 0, .slice none 0 0, .int .i64 0]) ?_ 2 _ rfl; (with_reducible repeat (first | refine blk_drewN ?_ _ | refine blk_drew ?_ | refine blk_alloc ?_ _)); refine blk_put (cs := #[.slice Ao30 y128.length co30, .slice none 0 0, .slice none 0 0, .slice none 0 0, .slice none 0 0, .slice none 0 0, .int .i64 0]) ?_ 1 _ rfl; (with_reducible repeat (first | refine blk_drewN ?_ _ | refine blk_drew ?_ | refine blk_alloc ?_ _)); refine blk_put (cs := #[.slice none 0 0, .slice none 0 0, .slice none 0 0, .slice none 0 0, .slice none 0 0, .slice none 0 0, .int .i64 0]) ?_ 0 _ rfl; (with_reducible repeat (first | refine blk_drewN ?_ _ | refine blk_drew ?_ | refine blk_alloc ?_ _)); exact BK146.out⟩, ⟨by repeat (first | (with_reducible first | exact HB.out | apply below_alloc | apply pw_below_drewN | apply below_drew1 | refine below_set ?_ GE127.out | refine below_set ?_ GE146.out) | exact HB.out)⟩⟩
    case round =>
      clear H'
      try clear c1
      try clear p2
      try clear c10
      obtain ⟨x4_1, x147001_1, u147001, rfl, HA, HK1, HO_147000, HO_147001, HO_147002, HO_147003, HO_147004, HO_147005, BK127, BK146, HB⟩ := hrel
      cases gk with
      | zero => exact absurd HA.out (by simp [spec_l06New.l0])
      | succ k1 =>
        have H := HA.out
        clear HA
        simp only [spec_l06New.l0] at H
        by_cases c38 : x4_1 < (l0.length : Int)
        · rw [if_pos c38] at H
          have c38b0 : decide (x4_1 < (l0.length : Int)) = true := decide_eq_true c38
          clear c38
          by_cases c39 : 0 ≤ x4_1
          · rw [if_pos c39] at H
            have c39b0 : decide (0 ≤ x4_1) = true := decide_eq_true c39
            clear c39
            by_cases c40 : x147001_1.length < 4398046511104
            · rw [if_pos c40] at H
              have LMc40 := Aside0.mk c40
              clear c40
              obtain ⟨y148, hy148⟩ : ∃ y_ : List (S77), y_ = (x147001_1 ++ [(⟨rd l0 x4_1, false, 0, 0⟩ : S77)]) := ⟨_, rfl⟩
              replace H : (spec_l06New.l0 k1 l0 (wrap64 (x4_1 + 1)) y128 y148 t134 t137 t140 t143 0) = some (r1, r2, r3, r4, r5, r6, r7) := by first | (rw [hy148]; with_reducible exact H) | (have H2_ := (Option.bind_some _ _).symm.trans H; rw [hy148]; with_reducible exact H2_) | (have H2_ := (Option.bind_some _ _).symm.trans H; with_reducible exact H2_) | with_reducible exact H | (rw [hy148]; exact H) | exact H
              have Ny148 := Aside0.mk hy148
              clear hy148
              have H' := Aside0.mk H
              clear H
              try go_wp2
              have n0_ := Aside0.mk (Kd.R_drew HO_147000.out)
              have n1_ := Aside0.mk (Kd.R_drew HO_147001.out)
              have n2_ := Aside0.mk (Kd.R_drew HO_147002.out)
              have n3_ := Aside0.mk (Kd.R_drew HO_147003.out)
              have n4_ := Aside0.mk (Kd.R_drew HO_147004.out)
              have n5_ := Aside0.mk (Kd.R_drew HO_147005.out)
              have n6_ := Aside0.mk (blk_drew BK127.out)
              have n7_ := Aside0.mk (blk_drew BK146.out)
              have n8_ := Aside0.mk (below_drew1 HB.out)
              clear HO_147000
              clear HO_147001
              clear HO_147002
              clear HO_147003
              clear HO_147004
              clear HO_147005
              clear BK127
              clear BK146
              clear HB
              have HO_147000 := n0_
              have HO_147001 := n1_
              have HO_147002 := n2_
              have HO_147003 := n3_
              have HO_147004 := n4_
              have HO_147005 := n5_
              have BK127 := n6_
              have BK146 := n7_
              have HB := n8_
              clear n0_ n1_ n2_ n3_ n4_ n5_ n6_ n7_ n8_
              have p147 : 0 ≤ (x4_1 : Int) := of_decide_eq_true (by first | (with_reducible assumption) | assumption)
              have q147 : x4_1 < (l0.length : Int) := of_decide_eq_true (by first | (with_reducible assumption) | assumption)
              obtain ⟨ad147, e147, hx147_0⟩ := Kd.at_int HR0.out x4_1 p147 q147
              have hw147_0 := hx147_0
              cases e147
              replace hx147_0 := (HB.out.cell (World.block_lt_of_cell? w _ hx147_0)).trans hx147_0
              replace p147 := eq_true p147
              replace q147 := eq_true q147
              refine start_ (n := 11) (S := fun w' => w'.cell? ⟨gb146, 0, none⟩ = some (.slice Ao30 y128.length co30) ∧ w'.cell? ⟨gb146, 1, none⟩ = some (u147001) ∧ w'.cell? ⟨gb146, 2, none⟩ = some (.slice Ao28 t134.length co28) ∧ w'.cell? ⟨gb146, 3, none⟩ = some (.slice Ao27 t137.length co27) ∧ w'.cell? ⟨gb146, 4, none⟩ = some (.slice Ao26 t140.length co26) ∧ w'.cell? ⟨gb146, 5, none⟩ = some (.slice Ao25 t143.length co25) ∧ w'.cell? ⟨gb146, 6, none⟩ = some (.int .i64 0) ∧ w'.cell? (ad147.add (x4_1).toNat) = some (.int .i64 (rd l0 x4_1))) (ds := [10]) #[false, false, false, false, false, false, false, false, false, false, false] (by kernel_rfl) rfl rfl ⟨(blk_cell BK146.out 0).trans rfl, (blk_cell BK146.out 1).trans rfl, (blk_cell BK146.out 2).trans rfl, (blk_cell BK146.out 3).trans rfl, (blk_cell BK146.out 4).trans rfl, (blk_cell BK146.out 5).trans rfl, (blk_cell BK146.out 6).trans rfl, ((HB.out.cell (World.block_lt_of_cell? w _ hw147_0)).trans hw147_0)⟩ (fun hHeld => ?_); refine with_tabW spec_l06New.tab5 spec_l06New.bits5 (fun HT_ HW_ => ?_)
              generalize wr.drew = w41 at HO_147000 HO_147001 HO_147002 HO_147003 HO_147004 HO_147005 BK127 BK146 HB hx147_0 hHeld ⊢
              refine pure_ (i := 0) (N := some 18) (v := ?_) (a' := ?_) #[true, false, false, false, false, false, false, false, false, false, false] rfl rfl (any_of HT_.out (by kernel_rfl)) (fun _ _ _ h => h) (Or.inl ⟨by rfl, ?_⟩) ?_ ?_
              rotate_left
              · intro w'
                go_simp
                with_reducible rfl
              rotate_left
              · simp only [Act.put, List.setIfInBounds_toArray, List.set_cons_zero, List.set_cons_succ, i64_w, i32_w]
                rfl
              refine pure_ (i := 2) (N := some 20) (v := ?_) (a' := ?_) #[true, false, true, false, false, false, false, false, false, false, false] rfl rfl (any_of HT_.out (by kernel_rfl)) (fun _ _ _ h => h) (Or.inl ⟨by rfl, ?_⟩) ?_ ?_
              rotate_left
              · intro w'
                go_simp
                with_reducible rfl
              rotate_left
              · simp only [Act.put, List.setIfInBounds_toArray, List.set_cons_zero, List.set_cons_succ, i64_w, i32_w]
                rfl
              refine pure_ (i := 3) (N := some 21) (v := ?_) (a' := ?_) #[true, false, true, true, false, false, false, false, false, false, false] rfl rfl (any_of HT_.out (by kernel_rfl)) (fun _ _ _ h => h) (Or.inl ⟨by rfl, ?_⟩) ?_ ?_
              rotate_left
              · intro w'
                go_simp
                with_reducible rfl
              rotate_left
              · simp only [Act.put, List.setIfInBounds_toArray, List.set_cons_zero, List.set_cons_succ, i64_w, i32_w]
                rfl
              refine pure_ (i := 4) (N := some 22) (v := ?_) (a' := ?_) #[true, false, true, true, true, false, false, false, false, false, false] rfl rfl (any_of HT_.out (by kernel_rfl)) (fun _ _ _ h => h) (Or.inl ⟨by rfl, ?_⟩) ?_ ?_
              rotate_left
              · intro w'
                go_simp
                with_reducible rfl
              rotate_left
              · simp only [Act.put, List.setIfInBounds_toArray, List.set_cons_zero, List.set_cons_succ, i64_w, i32_w]
                rfl
              refine take_ (i := 1) (N := some 19) (v := ?_) (a' := ?_) #[true, true, true, true, true, false, false, false, false, false, false] rfl rfl (take_ofW HT_.out HW_.out (by kernel_rfl)) (fun _ _ _ h => h) (Or.inl ⟨by rfl, ?_⟩) hHeld ?_ ?_
              rotate_left
              · rintro w' ⟨s0, s1, s2, s3, s4, s5, s6, s7⟩
                go_simp
                with_reducible rfl
              rotate_left
              · simp only [Act.put, List.setIfInBounds_toArray, List.set_cons_zero, List.set_cons_succ, i64_w, i32_w]
                rfl
              refine take_ (i := 5) (N := some 23) (v := ?_) (a' := ?_) #[true, true, true, true, true, true, false, false, false, false, false] rfl rfl (take_ofW HT_.out HW_.out (by kernel_rfl)) (fun _ _ _ h => h) (Or.inl ⟨by rfl, ?_⟩) hHeld ?_ ?_
              rotate_left
              · rintro w' ⟨s0, s1, s2, s3, s4, s5, s6, s7⟩
                go_simp
                with_reducible rfl
              rotate_left
              · simp only [Act.put, List.setIfInBounds_toArray, List.set_cons_zero, List.set_cons_succ, i64_w, i32_w]
                rfl
              refine pure_ (i := 6) (N := some 24) (v := ?_) (a' := ?_) #[true, true, true, true, true, true, true, false, false, false, false] rfl rfl (any_of HT_.out (by kernel_rfl)) (fun _ _ _ h => h) (Or.inl ⟨by rfl, ?_⟩) ?_ ?_
              rotate_left
              · intro w'
                go_simp
                with_reducible rfl
              rotate_left
              · simp only [Act.put, List.setIfInBounds_toArray, List.set_cons_zero, List.set_cons_succ, i64_w, i32_w]
                rfl
              refine one_ (i := 7) (N := some 25) #[true, true, true, true, true, true, true, true, false, false, false] rfl rfl (one_of HT_.out (by kernel_rfl)) (by decide) (fun K hK => ?_)
              refine value_ (w1 := ?_) (v := ?_) (by rfl) rfl ?_ ?_
              rotate_left 2
              · go_simp
                constructor
                · rfl
                · rfl
              refine hK.out _ _ ⟨(blk_cell (blk_alloc BK146.out _) 0).trans rfl, (blk_cell (blk_alloc BK146.out _) 1).trans rfl, (blk_cell (blk_alloc BK146.out _) 2).trans rfl, (blk_cell (blk_alloc BK146.out _) 3).trans rfl, (blk_cell (blk_alloc BK146.out _) 4).trans rfl, (blk_cell (blk_alloc BK146.out _) 5).trans rfl, (blk_cell (blk_alloc BK146.out _) 6).trans rfl, (World.cell?_alloc_lt _ _ _ (World.block_lt_of_cell? _ _ (((HB.out.cell (World.block_lt_of_cell? w _ hw147_0)).trans hw147_0)))).trans (((HB.out.cell (World.block_lt_of_cell? w _ hw147_0)).trans hw147_0))⟩ (fun hHeld => ?_)
              clear hK K
              refine norm_ (a' := ?_) ?_ ?_
              rotate_left
              · show Act.put _ (some 25) _ = _
                simp only [Act.put, List.setIfInBounds_toArray, List.set_cons_zero, List.set_cons_succ, i64_w, i32_w]
                rfl
              refine one_ (i := 8) (N := some 26) #[true, true, true, true, true, true, true, true, true, false, false] rfl rfl (one_of HT_.out (by kernel_rfl)) (by decide) (fun K hK => ?_)
              refine Kd.R_append_step k77 (w0 := w) w.heap.size (by rfl) (.tmp 19) (.tmp 25) 29 77 (.agg #[(.int .i64 0), (.bool false), (.int .i64 0), (.int .i64 0)]) 32 rfl Try.underlying29 info77 rfl (by decide) (by omega) u147001 x147001_1 (⟨rd l0 x4_1, false, 0, 0⟩ : S77) [.int .i64 (rd l0 x4_1), .bool false, .int .i64 0, .int .i64 0] (fun _ => True) (fun _ => False) rfl rfl ?aP (fun _ hk => hk.elim) ?aF ?aO ?aB ?aS ?aL ?_
              (case aP => exact k77_mkM _ _ _ (⟨rd l0 x4_1, false, 0, 0⟩ : S77))
              (case aB => exact (by repeat (first | (with_reducible first | exact HB.out | apply below_alloc | apply pw_below_drewN | apply below_drew1 | refine below_set ?_ GE127.out | refine below_set ?_ GE146.out) | exact HB.out)))
              (case aF => exact (fun _ _ => trivial))
              (case aO => exact (by (with_reducible repeat (first | apply Kd.R_alloc | apply Kd.R_drewN | apply Kd.R_drew)); exact HO_147001.out))
              (case aS => exact (below_size (by repeat (first | (with_reducible first | exact HB.out | apply below_alloc | apply pw_below_drewN | apply below_drew1 | refine below_set ?_ GE127.out | refine below_set ?_ GE146.out) | exact HB.out))))
              (case aL => have := LMc40.out; omega)
              intro v149 w42 ho hb hg hat
              rw [← Ny148.out] at ho
              have n0_ := Aside0.mk (Kd.R_over' (by (with_reducible repeat (first | apply Kd.R_alloc | apply Kd.R_drewN | apply Kd.R_drew)); exact HO_147000.out) (Kd.R_typed (by (with_reducible repeat (first | apply Kd.R_alloc | apply Kd.R_drewN | apply Kd.R_drew)); exact HO_147001.out)) (by decide) hg)
              have n1_ := Aside0.mk (Kd.R_over' (by (with_reducible repeat (first | apply Kd.R_alloc | apply Kd.R_drewN | apply Kd.R_drew)); exact HO_147002.out) (Kd.R_typed (by (with_reducible repeat (first | apply Kd.R_alloc | apply Kd.R_drewN | apply Kd.R_drew)); exact HO_147001.out)) (by decide) hg)
              have n2_ := Aside0.mk (Kd.R_over' (by (with_reducible repeat (first | apply Kd.R_alloc | apply Kd.R_drewN | apply Kd.R_drew)); exact HO_147003.out) (Kd.R_typed (by (with_reducible repeat (first | apply Kd.R_alloc | apply Kd.R_drewN | apply Kd.R_drew)); exact HO_147001.out)) (by decide) hg)
              have n3_ := Aside0.mk (Kd.R_over' (by (with_reducible repeat (first | apply Kd.R_alloc | apply Kd.R_drewN | apply Kd.R_drew)); exact HO_147004.out) (Kd.R_typed (by (with_reducible repeat (first | apply Kd.R_alloc | apply Kd.R_drewN | apply Kd.R_drew)); exact HO_147001.out)) (by decide) hg)
              have n4_ := Aside0.mk (Kd.R_over' (by (with_reducible repeat (first | apply Kd.R_alloc | apply Kd.R_drewN | apply Kd.R_drew)); exact HO_147005.out) (Kd.R_typed (by (with_reducible repeat (first | apply Kd.R_alloc | apply Kd.R_drewN | apply Kd.R_drew)); exact HO_147001.out)) (by decide) hg)
              have n5_ := Aside0.mk (blk_grown (g := gb127) (o := .cells #[.slice none 0 0, .slice none 0 0, .slice none 0 0, .slice none 0 0, .slice none 0 0, .slice none 0 0, .int .i64 0] 31 (0, 0)) (by (with_reducible repeat (first | refine blk_drewN ?_ _ | refine blk_drew ?_ | refine blk_alloc ?_ _)); exact BK127.out) hg (Kd.R_ne HO_147001.out BK127.out (by decide)))
              have n6_ := Aside0.mk (blk_grown (g := gb146) (o := .cells #[.slice Ao30 y128.length co30, u147001, .slice Ao28 t134.length co28, .slice Ao27 t137.length co27, .slice Ao26 t140.length co26, .slice Ao25 t143.length co25, .int .i64 0] 31 (0, 0)) (by (with_reducible repeat (first | refine blk_drewN ?_ _ | refine blk_drew ?_ | refine blk_alloc ?_ _)); exact BK146.out) hg (Kd.R_ne HO_147001.out BK146.out (by decide)))
              have n7_ := Aside0.mk (hb)
              have n8_ := Aside0.mk (ho)
              clear HO_147000
              clear HO_147002
              clear HO_147003
              clear HO_147004
              clear HO_147005
              clear BK127
              clear BK146
              clear HB
              clear HO_147001
              have HO_147000 := n0_
              have HO_147002 := n1_
              have HO_147003 := n2_
              have HO_147004 := n3_
              have HO_147005 := n4_
              have BK127 := n5_
              have BK146 := n6_
              have HB := n7_
              have HO150 := n8_
              clear n0_ n1_ n2_ n3_ n4_ n5_ n6_ n7_ n8_
              clear ho hb hg hat
              obtain ⟨Ao43, co43, eo43⟩ := Kd.R_slice HO150.out
              (first | subst eo43 | (injection eo43 with f1_ f2_ f3_; have f4_ := f1_.symm; have f5_ := f3_.symm; clear f1_ f2_ f3_; subst f4_; subst f5_))
              refine hK.out _ _ ⟨(blk_cell BK146.out 0).trans rfl, (blk_cell BK146.out 1).trans rfl, (blk_cell BK146.out 2).trans rfl, (blk_cell BK146.out 3).trans rfl, (blk_cell BK146.out 4).trans rfl, (blk_cell BK146.out 5).trans rfl, (blk_cell BK146.out 6).trans rfl, ((HB.out.cell (World.block_lt_of_cell? w _ hw147_0)).trans hw147_0)⟩ (fun hHeld => ?_)
              clear hK K
              refine norm_ (a' := ?_) ?_ ?_
              rotate_left
              · show Act.put _ (some 26) _ = _
                simp only [Act.put, List.setIfInBounds_toArray, List.set_cons_zero, List.set_cons_succ, i64_w, i32_w]
                rfl
              refine pure_ (i := 9) (N := some 27) (v := ?_) (a' := ?_) #[true, true, true, true, true, true, true, true, true, true, false] rfl rfl (any_of HT_.out (by kernel_rfl)) (fun _ _ _ h => h) (Or.inl ⟨by rfl, ?_⟩) ?_ ?_
              rotate_left
              · intro w'
                go_simp
                with_reducible rfl
              rotate_left
              · simp only [Act.put, List.setIfInBounds_toArray, List.set_cons_zero, List.set_cons_succ, i64_w, i32_w]
                rfl
              refine last_ (i := 10) (N := none) #[true, true, true, true, true, true, true, true, true, true, true] rfl rfl (one_of HT_.out (by kernel_rfl)) (by decide) (fun K hK => ?_)
              have hs44 : w42.cell? ⟨gb146, 1, none⟩ = some (u147001) := (blk_cell BK146.out 1).trans rfl
              have hfs44 := blk_frozen BK146.out 1
              have hns44_0 := NB127_146.out
              have hms44_0 := NB146_127.out
              refine skip_ (w1 := ?_) (by rfl) rfl ?_ ?_
              rotate_left
              · go_simp
                rfl
              refine hK.out _ _ ?_
              clear hK K
              refine done_ (done_of HT_.out (by kernel_rfl)) ?_
              try go_wp2
              go_roundg k1
              case measure => have := HK1.out; omega
              case rel => exact ⟨(wrap64 (x4_1 + 1)), (y148), (.slice Ao43 y148.length co43), (by first | rfl | (simp; done) | (simp [*]; done)), H', ⟨by have := HK1.out; omega⟩, ⟨by (with_reducible repeat (first | apply Kd.R_alloc | apply Kd.R_drewN | apply Kd.R_drew)); exact Kd.R_mono (Kd.R_far (p := ⟨gb146, 1, none⟩) (Kd.R_types HO_147000.out BK146.out (by decide)) (fun _ hk => hk.2) (.slice Ao43 y148.length co43)) (fun _ hk => trivial)⟩, ⟨by (with_reducible repeat (first | apply Kd.R_alloc | apply Kd.R_drewN | apply Kd.R_drew)); exact Kd.R_mono (Kd.R_far (p := ⟨gb146, 1, none⟩) (Kd.R_types HO150.out BK146.out (by decide)) (fun _ hk => hk.2) (.slice Ao43 y148.length co43)) (fun _ hk => trivial)⟩, ⟨by (with_reducible repeat (first | apply Kd.R_alloc | apply Kd.R_drewN | apply Kd.R_drew)); exact Kd.R_mono (Kd.R_far (p := ⟨gb146, 1, none⟩) (Kd.R_types HO_147002.out BK146.out (by decide)) (fun _ hk => hk.2) (.slice Ao43 y148.length co43)) (fun _ hk => ⟨hk.1.1, ⟨hk.1.2.1, hk.1.2.2⟩⟩)⟩, ⟨by (with_reducible repeat (first | apply Kd.R_alloc | apply Kd.R_drewN | apply Kd.R_drew)); exact Kd.R_mono (Kd.R_far (p := ⟨gb146, 1, none⟩) (Kd.R_types HO_147003.out BK146.out (by decide)) (fun _ hk => hk.2) (.slice Ao43 y148.length co43)) (fun _ hk => ⟨hk.1.1, ⟨hk.1.2.1, hk.1.2.2⟩⟩)⟩, ⟨by (with_reducible repeat (first | apply Kd.R_alloc | apply Kd.R_drewN | apply Kd.R_drew)); exact Kd.R_mono (Kd.R_far (p := ⟨gb146, 1, none⟩) (Kd.R_types HO_147004.out BK146.out (by decide)) (fun _ hk => hk.2) (.slice Ao43 y148.length co43)) (fun _ hk => ⟨hk.1.1, ⟨hk.1.2.1, hk.1.2.2⟩⟩)⟩, ⟨by (with_reducible repeat (first | apply Kd.R_alloc | apply Kd.R_drewN | apply Kd.R_drew)); exact Kd.R_mono (Kd.R_far (p := ⟨gb146, 1, none⟩) (Kd.R_types HO_147005.out BK146.out (by decide)) (fun _ hk => hk.2) (.slice Ao43 y148.length co43)) (fun _ hk => ⟨hk.1.1, ⟨hk.1.2.1, hk.1.2.2⟩⟩)⟩, ⟨by (with_reducible repeat (first | refine blk_drewN ?_ _ | refine blk_drew ?_ | refine blk_alloc ?_ _)); refine blk_far ?_ NB127_146.out _; (with_reducible repeat (first | refine blk_drewN ?_ _ | refine blk_drew ?_ | refine blk_alloc ?_ _)); exact BK127.out⟩, ⟨by (with_reducible repeat (first | refine blk_drewN ?_ _ | refine blk_drew ?_ | refine blk_alloc ?_ _)); refine blk_put (cs := #[.slice Ao30 y128.length co30, u147001, .slice Ao28 t134.length co28, .slice Ao27 t137.length co27, .slice Ao26 t140.length co26, .slice Ao25 t143.length co25, .int .i64 0]) ?_ 1 _ rfl; (with_reducible repeat (first | refine blk_drewN ?_ _ | refine blk_drew ?_ | refine blk_alloc ?_ _)); exact BK146.out⟩, ⟨by repeat (first | (with_reducible first | exact HB.out | apply below_alloc | apply pw_below_drewN | apply below_drew1 | refine below_set ?_ GE127.out | refine below_set ?_ GE146.out) | exact HB.out)⟩⟩
            · rw [if_neg c40] at H
              exact absurd H (by simp)
          · rw [if_neg c39] at H
            exact absurd H (by simp)
        · rw [if_neg c38] at H
          have c38b0 : decide (x4_1 < (l0.length : Int)) = false := decide_eq_false c38
          clear c38
          simp only [Option.some.injEq, Prod.mk.injEq] at H
          obtain ⟨rfl, rfl, rfl, rfl, rfl, rfl, rfl⟩ := H
          have hnb45 := NB146_127.out
          have hnc45 := NB127_146.out
          have hcz46_0 : wr.cell? ⟨gb146, 0, none⟩ = some (.slice Ao30 y128.length co30) := (blk_cell BK146.out 0).trans rfl
          have hcz46_1 : wr.cell? ⟨gb146, 1, none⟩ = some (u147001) := (blk_cell BK146.out 1).trans rfl
          have hcz46_2 : wr.cell? ⟨gb146, 2, none⟩ = some (.slice Ao28 t134.length co28) := (blk_cell BK146.out 2).trans rfl
          have hcz46_3 : wr.cell? ⟨gb146, 3, none⟩ = some (.slice Ao27 t137.length co27) := (blk_cell BK146.out 3).trans rfl
          have hcz46_4 : wr.cell? ⟨gb146, 4, none⟩ = some (.slice Ao26 t140.length co26) := (blk_cell BK146.out 4).trans rfl
          have hcz46_5 : wr.cell? ⟨gb146, 5, none⟩ = some (.slice Ao25 t143.length co25) := (blk_cell BK146.out 5).trans rfl
          have hcz46_6 : wr.cell? ⟨gb146, 6, none⟩ = some (.int .i64 0) := (blk_cell BK146.out 6).trans rfl
          have hfz46_0 := blk_frozen BK146.out 0
          have hfz46_1 := blk_frozen BK146.out 1
          have hfz46_2 := blk_frozen BK146.out 2
          have hfz46_3 := blk_frozen BK146.out 3
          have hfz46_4 := blk_frozen BK146.out 4
          have hfz46_5 := blk_frozen BK146.out 5
          have hfz46_6 := blk_frozen BK146.out 6
          have hcz47_0 : wr.cell? ⟨gb127, 0, none⟩ = some (.slice none 0 0) := (blk_cell BK127.out 0).trans rfl
          have hcz47_1 : wr.cell? ⟨gb127, 1, none⟩ = some (.slice none 0 0) := (blk_cell BK127.out 1).trans rfl
          have hcz47_2 : wr.cell? ⟨gb127, 2, none⟩ = some (.slice none 0 0) := (blk_cell BK127.out 2).trans rfl
          have hcz47_3 : wr.cell? ⟨gb127, 3, none⟩ = some (.slice none 0 0) := (blk_cell BK127.out 3).trans rfl
          have hcz47_4 : wr.cell? ⟨gb127, 4, none⟩ = some (.slice none 0 0) := (blk_cell BK127.out 4).trans rfl
          have hcz47_5 : wr.cell? ⟨gb127, 5, none⟩ = some (.slice none 0 0) := (blk_cell BK127.out 5).trans rfl
          have hcz47_6 : wr.cell? ⟨gb127, 6, none⟩ = some (.int .i64 0) := (blk_cell BK127.out 6).trans rfl
          have hfz47_0 := blk_frozen BK127.out 0
          have hfz47_1 := blk_frozen BK127.out 1
          have hfz47_2 := blk_frozen BK127.out 2
          have hfz47_3 := blk_frozen BK127.out 3
          have hfz47_4 := blk_frozen BK127.out 4
          have hfz47_5 := blk_frozen BK127.out 5
          have hfz47_6 := blk_frozen BK127.out 6
          obtain ⟨Ao48, co48, eo48⟩ := Kd.R_slice HO_147001.out
          subst eo48
          go_wp2
          refine bodyPost_ret (results_cell_row rfl _ _ gb127 31 #[.slice Ao30 y128.length co30, .slice Ao48 x147001_1.length co48, .slice Ao28 t134.length co28, .slice Ao27 t137.length co27, .slice Ao26 t140.length co26, .slice Ao25 t143.length co25, .int .i64 0] (0, 0) _ rfl (by (with_reducible repeat (first | refine blk_drewN ?_ _ | refine blk_drew ?_ | refine blk_alloc ?_ _)); refine blk_put (cs := #[.slice Ao30 y128.length co30, .slice Ao48 x147001_1.length co48, .slice Ao28 t134.length co28, .slice Ao27 t137.length co27, .slice Ao26 t140.length co26, .slice Ao25 t143.length co25, .int .i64 0]) ?_ 6 _ rfl; (with_reducible repeat (first | refine blk_drewN ?_ _ | refine blk_drew ?_ | refine blk_alloc ?_ _)); refine blk_put (cs := #[.slice Ao30 y128.length co30, .slice Ao48 x147001_1.length co48, .slice Ao28 t134.length co28, .slice Ao27 t137.length co27, .slice Ao26 t140.length co26, .slice none 0 0, .int .i64 0]) ?_ 5 _ rfl; (with_reducible repeat (first | refine blk_drewN ?_ _ | refine blk_drew ?_ | refine blk_alloc ?_ _)); refine blk_put (cs := #[.slice Ao30 y128.length co30, .slice Ao48 x147001_1.length co48, .slice Ao28 t134.length co28, .slice Ao27 t137.length co27, .slice none 0 0, .slice none 0 0, .int .i64 0]) ?_ 4 _ rfl; (with_reducible repeat (first | refine blk_drewN ?_ _ | refine blk_drew ?_ | refine blk_alloc ?_ _)); refine blk_put (cs := #[.slice Ao30 y128.length co30, .slice Ao48 x147001_1.length co48, .slice Ao28 t134.length co28, .slice none 0 0, .slice none 0 0, .slice none 0 0, .int .i64 0]) ?_ 3 _ rfl; (with_reducible repeat (first | refine blk_drewN ?_ _ | refine blk_drew ?_ | refine blk_alloc ?_ _)); refine blk_put (cs := #[.slice Ao30 y128.length co30, .slice Ao48 x147001_1.length co48, .slice none 0 0, .slice none 0 0, .slice none 0 0, .slice none 0 0, .int .i64 0]) ?_ 2 _ rfl; (with_reducible repeat (first | refine blk_drewN ?_ _ | refine blk_drew ?_ | refine blk_alloc ?_ _)); refine blk_put (cs := #[.slice Ao30 y128.length co30, .slice none 0 0, .slice none 0 0, .slice none 0 0, .slice none 0 0, .slice none 0 0, .int .i64 0]) ?_ 1 _ rfl; (with_reducible repeat (first | refine blk_drewN ?_ _ | refine blk_drew ?_ | refine blk_alloc ?_ _)); refine blk_put (cs := #[.slice none 0 0, .slice none 0 0, .slice none 0 0, .slice none 0 0, .slice none 0 0, .slice none 0 0, .int .i64 0]) ?_ 0 _ rfl; (with_reducible repeat (first | refine blk_drewN ?_ _ | refine blk_drew ?_ | refine blk_alloc ?_ _)); exact BK127.out) Try.underlying31 rfl (by kernel_rfl)) rfl ?_
          exact ⟨_, _, _, _, _, _, by first | rfl | (simp [errW_none, errW_some] <;> rfl) | (simp [*, errW_none, errW_some] <;> rfl), by (with_reducible repeat (first | apply Kd.R_alloc | apply Kd.R_drewN | apply Kd.R_drew)); exact Kd.R_mono (Kd.R_far (p := ⟨gb127, 6, none⟩) (Kd.R_far (p := ⟨gb127, 5, none⟩) (Kd.R_far (p := ⟨gb127, 4, none⟩) (Kd.R_far (p := ⟨gb127, 3, none⟩) (Kd.R_far (p := ⟨gb127, 2, none⟩) (Kd.R_far (p := ⟨gb127, 1, none⟩) (Kd.R_far (p := ⟨gb127, 0, none⟩) (Kd.R_types HO_147000.out BK127.out (by decide)) (fun _ hk => hk.2) (.slice Ao30 y128.length co30)) (fun _ hk => hk.2) (.slice Ao48 x147001_1.length co48)) (fun _ hk => hk.2) (.slice Ao28 t134.length co28)) (fun _ hk => hk.2) (.slice Ao27 t137.length co27)) (fun _ hk => hk.2) (.slice Ao26 t140.length co26)) (fun _ hk => hk.2) (.slice Ao25 t143.length co25)) (fun _ hk => hk.2) (.int .i64 0)) (fun _ hk => trivial), by (with_reducible repeat (first | apply Kd.R_alloc | apply Kd.R_drewN | apply Kd.R_drew)); exact Kd.R_mono (Kd.R_far (p := ⟨gb127, 6, none⟩) (Kd.R_far (p := ⟨gb127, 5, none⟩) (Kd.R_far (p := ⟨gb127, 4, none⟩) (Kd.R_far (p := ⟨gb127, 3, none⟩) (Kd.R_far (p := ⟨gb127, 2, none⟩) (Kd.R_far (p := ⟨gb127, 1, none⟩) (Kd.R_far (p := ⟨gb127, 0, none⟩) (Kd.R_types HO_147001.out BK127.out (by decide)) (fun _ hk => hk.2) (.slice Ao30 y128.length co30)) (fun _ hk => hk.2) (.slice Ao48 x147001_1.length co48)) (fun _ hk => hk.2) (.slice Ao28 t134.length co28)) (fun _ hk => hk.2) (.slice Ao27 t137.length co27)) (fun _ hk => hk.2) (.slice Ao26 t140.length co26)) (fun _ hk => hk.2) (.slice Ao25 t143.length co25)) (fun _ hk => hk.2) (.int .i64 0)) (fun _ hk => trivial), by (with_reducible repeat (first | apply Kd.R_alloc | apply Kd.R_drewN | apply Kd.R_drew)); exact Kd.R_mono (Kd.R_far (p := ⟨gb127, 6, none⟩) (Kd.R_far (p := ⟨gb127, 5, none⟩) (Kd.R_far (p := ⟨gb127, 4, none⟩) (Kd.R_far (p := ⟨gb127, 3, none⟩) (Kd.R_far (p := ⟨gb127, 2, none⟩) (Kd.R_far (p := ⟨gb127, 1, none⟩) (Kd.R_far (p := ⟨gb127, 0, none⟩) (Kd.R_types HO_147002.out BK127.out (by decide)) (fun _ hk => hk.2) (.slice Ao30 y128.length co30)) (fun _ hk => hk.2) (.slice Ao48 x147001_1.length co48)) (fun _ hk => hk.2) (.slice Ao28 t134.length co28)) (fun _ hk => hk.2) (.slice Ao27 t137.length co27)) (fun _ hk => hk.2) (.slice Ao26 t140.length co26)) (fun _ hk => hk.2) (.slice Ao25 t143.length co25)) (fun _ hk => hk.2) (.int .i64 0)) (fun _ hk => ⟨hk.1.1, ⟨hk.1.2.1, hk.1.2.2⟩⟩), by (with_reducible repeat (first | apply Kd.R_alloc | apply Kd.R_drewN | apply Kd.R_drew)); exact Kd.R_mono (Kd.R_far (p := ⟨gb127, 6, none⟩) (Kd.R_far (p := ⟨gb127, 5, none⟩) (Kd.R_far (p := ⟨gb127, 4, none⟩) (Kd.R_far (p := ⟨gb127, 3, none⟩) (Kd.R_far (p := ⟨gb127, 2, none⟩) (Kd.R_far (p := ⟨gb127, 1, none⟩) (Kd.R_far (p := ⟨gb127, 0, none⟩) (Kd.R_types HO_147003.out BK127.out (by decide)) (fun _ hk => hk.2) (.slice Ao30 y128.length co30)) (fun _ hk => hk.2) (.slice Ao48 x147001_1.length co48)) (fun _ hk => hk.2) (.slice Ao28 t134.length co28)) (fun _ hk => hk.2) (.slice Ao27 t137.length co27)) (fun _ hk => hk.2) (.slice Ao26 t140.length co26)) (fun _ hk => hk.2) (.slice Ao25 t143.length co25)) (fun _ hk => hk.2) (.int .i64 0)) (fun _ hk => ⟨hk.1.1, ⟨hk.1.2.1, hk.1.2.2⟩⟩), by (with_reducible repeat (first | apply Kd.R_alloc | apply Kd.R_drewN | apply Kd.R_drew)); exact Kd.R_mono (Kd.R_far (p := ⟨gb127, 6, none⟩) (Kd.R_far (p := ⟨gb127, 5, none⟩) (Kd.R_far (p := ⟨gb127, 4, none⟩) (Kd.R_far (p := ⟨gb127, 3, none⟩) (Kd.R_far (p := ⟨gb127, 2, none⟩) (Kd.R_far (p := ⟨gb127, 1, none⟩) (Kd.R_far (p := ⟨gb127, 0, none⟩) (Kd.R_types HO_147004.out BK127.out (by decide)) (fun _ hk => hk.2) (.slice Ao30 y128.length co30)) (fun _ hk => hk.2) (.slice Ao48 x147001_1.length co48)) (fun _ hk => hk.2) (.slice Ao28 t134.length co28)) (fun _ hk => hk.2) (.slice Ao27 t137.length co27)) (fun _ hk => hk.2) (.slice Ao26 t140.length co26)) (fun _ hk => hk.2) (.slice Ao25 t143.length co25)) (fun _ hk => hk.2) (.int .i64 0)) (fun _ hk => ⟨hk.1.1, ⟨hk.1.2.1, hk.1.2.2⟩⟩), by (with_reducible repeat (first | apply Kd.R_alloc | apply Kd.R_drewN | apply Kd.R_drew)); exact Kd.R_mono (Kd.R_far (p := ⟨gb127, 6, none⟩) (Kd.R_far (p := ⟨gb127, 5, none⟩) (Kd.R_far (p := ⟨gb127, 4, none⟩) (Kd.R_far (p := ⟨gb127, 3, none⟩) (Kd.R_far (p := ⟨gb127, 2, none⟩) (Kd.R_far (p := ⟨gb127, 1, none⟩) (Kd.R_far (p := ⟨gb127, 0, none⟩) (Kd.R_types HO_147005.out BK127.out (by decide)) (fun _ hk => hk.2) (.slice Ao30 y128.length co30)) (fun _ hk => hk.2) (.slice Ao48 x147001_1.length co48)) (fun _ hk => hk.2) (.slice Ao28 t134.length co28)) (fun _ hk => hk.2) (.slice Ao27 t137.length co27)) (fun _ hk => hk.2) (.slice Ao26 t140.length co26)) (fun _ hk => hk.2) (.slice Ao25 t143.length co25)) (fun _ hk => hk.2) (.int .i64 0)) (fun _ hk => ⟨hk.1.1, ⟨hk.1.2.1, hk.1.2.2⟩⟩), by repeat (first | (with_reducible first | exact HB.out | apply below_alloc | apply pw_below_drewN | apply below_drew1 | refine below_set ?_ GE127.out | refine below_set ?_ GE146.out) | exact HB.out)⟩
  · rw [if_neg c2] at H
    exact absurd H (by simp)

end Go.Proofs.Ytjgdfbcjlebniaa.MFnExactNewData
