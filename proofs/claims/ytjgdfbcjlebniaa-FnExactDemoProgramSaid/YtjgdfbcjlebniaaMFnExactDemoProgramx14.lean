import Derived.Test.YtjgdfbcjlebniaaMFnExactDemoProgramx0
-- Text written by a program of this session (wip/tools: the kit's printer with additions of ours).
namespace Go.Proofs.Ytjgdfbcjlebniaa.MFnExactDemoProgram
open Go.RowKit Go.Proofs.YtjgdfbcjlebniaaW.PrintWords Go.Proofs.YtjgdfbcjlebniaaW.PrintLast Go.Proofs.YtjgdfbcjlebniaaW.PrintMore
attribute [local go_sem] max2_int min2_int max_two min_two max_three min_three max_four min_four   -- for this text's walks alone
set_option linter.unusedVariables false
set_option linter.unusedSimpArgs false

/-! ### laws_heldProgram: function 29 -/
/-! Boxes of one's own, all in one fact; and a region whose operations yield what they yield in whatever order. -/
def Bx (w0 w : World) (L : List (Nat × Array Value × Nat)) : Prop := Below w0.heap.size w0 w ∧ (∀ p ∈ L, w0.heap.size ≤ p.1 ∧ w.heap[p.1]? = some (.cells p.2.1 p.2.2 (0, 0))) ∧ L.Pairwise (fun p q => p.1 ≠ q.1)
section
variable {w0 w w1 : World} {L : List (Nat × Array Value × Nat)} {g t : Nat} {cs : Array Value}
theorem Bx.nil (w : World) : Bx w w [] := ⟨Below.refl _ _, fun p hp => (by cases hp), List.Pairwise.nil⟩
theorem Bx.below (h : Bx w0 w L) (hb : Below w.heap.size w w1) : Bx w0 w1 L := ⟨below_step h.1 hb, fun p hp => ⟨(h.2.1 p hp).1, blk_below (h.2.1 p hp).2 hb⟩, h.2.2⟩
theorem Bx.alloc (h : Bx w0 w L) (o : Obj) : Bx w0 (w.alloc o) L := h.below (below_alloc (Below.refl _ _) o)
theorem Bx.drew (h : Bx w0 w L) : Bx w0 w.drew L := h.below (below_drew (Below.refl _ _))
theorem Bx.drewN (h : Bx w0 w L) (n : Nat) : Bx w0 (w.drewN n) L := h.below (pw_below_drewN (Below.refl _ _) n)
theorem Bx.get (h : Bx w0 w L) (i : Nat) (hi : L[i]? = some (g, cs, t)) : w.heap[g]? = some (.cells cs t (0, 0)) := (h.2.1 _ (List.mem_of_getElem? hi)).2
theorem Bx.ge (h : Bx w0 w L) (i : Nat) (hi : L[i]? = some (g, cs, t)) : w0.heap.size ≤ g := (h.2.1 _ (List.mem_of_getElem? hi)).1
theorem Bx.new (h : Bx w0 w L) (hg : g = w.heap.size) (hb : w1.heap[g]? = some (.cells cs t (0, 0))) (hB : Below w.heap.size w w1) : Bx w0 w1 ((g, cs, t) :: L) :=
  ⟨below_step h.1 hB, fun p hp => by
    rcases List.mem_cons.1 hp with rfl | hp
    · exact ⟨by rw [show g = w.heap.size from hg]; exact h.1.size, hb⟩
    · exact ⟨(h.2.1 p hp).1, blk_below (h.2.1 p hp).2 hB⟩, List.pairwise_cons.2 ⟨fun q hq => by
    have := blk_lt (h.2.1 q hq).2
    show g ≠ q.1
    omega, h.2.2⟩⟩
theorem Bx.pop (h : Bx w0 w ((g, cs, t) :: L)) : Bx w0 w L := ⟨h.1, fun p hp => h.2.1 p (List.mem_cons_of_mem _ hp), (List.pairwise_cons.1 h.2.2).2⟩
theorem below_cells {g : Nat} (hg : w0.heap.size ≤ g) : ∀ (seg : List Value) (j : Nat) {w : World}, Below w0.heap.size w0 w → Below w0.heap.size w0 (w.setCells g j seg)
  | [], _, _, h => h
  | v :: r, j, w, h => by
    rw [World.setCells]
    exact below_cells hg r (j + 1) (below_set h hg)
theorem Bx.put {cs' : Array Value} {seg : List Value} (h : Bx w0 w L) (i : Nat) (hi : L[i]? = some (g, cs, t)) (j : Nat) (hj : j + seg.length ≤ cs.size) (he : cs'.toList = cs.toList.take j ++ seg ++ cs.toList.drop (j + seg.length)) :
    Bx w0 (w.setCells g j seg) (L.set i (g, cs', t)) := by
  have hb := h.get i hi
  obtain ⟨cur', h3, _, h5⟩ := setCells_row seg j w cs hb hj
  obtain rfl : cur' = cs' := by rw [← Array.toList_inj, h5, he]
  refine ⟨below_cells (h.ge i hi) seg j h.1, fun p hp => ?_, ?_⟩
  · obtain ⟨m, hm⟩ := List.getElem?_of_mem hp
    rw [List.getElem?_set] at hm
    by_cases c : i = m
    · subst c
      rw [if_pos rfl] at hm
      split at hm
      · cases hm
        exact ⟨h.ge i hi, h3⟩
      · cases hm
    · rw [if_neg c] at hm
      have hpm := h.2.1 p (List.mem_of_getElem? hm)
      refine ⟨hpm.1, (setCells_far seg j p.1 ?_).trans hpm.2⟩
      have hil := (List.getElem?_eq_some_iff.1 hi)
      have hml := (List.getElem?_eq_some_iff.1 hm)
      have hpw := List.pairwise_iff_getElem.1 h.2.2
      rcases Nat.lt_or_gt_of_ne c with c1 | c1
      · have := hpw i m hil.1 hml.1 c1
        rw [hil.2, hml.2] at this
        exact Ne.symm this
      · have := hpw m i hml.1 hil.1 c1
        rw [hil.2, hml.2] at this
        exact this
  · have hil := (List.getElem?_eq_some_iff.1 hi)
    refine List.pairwise_iff_getElem.2 (fun a b ha hb2 hab => ?_)
    rw [List.length_set] at ha hb2
    have := List.pairwise_iff_getElem.1 h.2.2 a b ha hb2 hab
    rw [List.getElem_set, List.getElem_set]
    split <;> split
    · omega
    · rename_i e _; subst e; rw [hil.2] at this; exact this
    · rename_i _ e; subst e; rw [hil.2] at this; exact this
    · exact this
/-- A struct is read whole. -/
theorem run_agg {P : Program} {d : TypeDesc} (ty : TypeId) (hb : w.heap[g]? = some (.cells cs t (0, 0))) (hu : P.underlying ty = some d) (hd : (match d with | .struct _ | .array _ _ => true | _ => false) = true) (hi : (P.info? ty).map (·.size) = some cs.size) :
    (Instr.loadAt ty (.pointer (some ⟨g, 0, none⟩))).run P w = .ok (.agg cs) w := by
  simp only [Instr.loadAt, Instr.sureAddr, Sem.run_bind, Sem.run_pure, Result.andThen_ok, run_loadVar_row w g t ty cs (0, 0) d hb hu hd hi]
end
section
variable {P : Program} {ops : Array Oper} {rest : List Oper} {o : Oper} {a : Act} {Q : Exit → Act → World → Prop} {w0 W : World} {L : List (Nat × Array Value × Nat)} {g t : Nat} {cs cs' : Array Value}
/-- A new box. -/
theorem bxE {N : Tmp} (hd : o.dst = some N) (hgd : o.guard = none) (HB : Bx w0 W L)
    (hrun : (execOp a.eval o).run P W = .ok (.value (.pointer (some ⟨W.heap.size, 0, none⟩))) (W.alloc (.cells cs t (0, 0))))
    (h : ∀ g w1, Bx w0 w1 ((g, cs, t) :: L) → wpList P ops Q rest (a.put o.dst (.pointer (some ⟨g, 0, none⟩))) w1) : wpList P ops Q (o :: rest) a W :=
  box_event hgd hd hrun (fun _ hg _ hb hB => h _ _ (HB.new hg hb hB))
/-- A box, or a part of it, is written. -/
theorem stE {ty : TypeId} {p v : Operand} {u : Value} {seg : List Value} (i : Nat) (j : Nat) (HB : Bx w0 W L) (hi : L[i]? = some (g, cs, t)) (ho : o.op = .store ty p v) (hgd : o.guard = none) (hN : o.dst = none) (hp : a.eval p = .pointer (some ⟨g, j, none⟩)) (hv : a.eval v = u)
    (hu : u.cells.toList = seg) (ht : (P.info? ty).map (·.size) = some seg.length) (h1 : ∀ q ∈ seg, q.oneCell' = true) (hj : j + seg.length ≤ cs.size) (he : cs'.toList = cs.toList.take j ++ seg ++ cs.toList.drop (j + seg.length))
    (h : ∀ w1, Bx w0 w1 (L.set i (g, cs', t)) → wpList P ops Q rest a w1) : wpList P ops Q (o :: rest) a W := by
  refine wpList_plain hgd fun K hK => ?_
  unfold Oper.wp execOp
  simp only [ho, hp, hv, Sem.run_bind, run_store_run ty u seg (HB.get i hi) hu ht hj h1]
  show K (a.put o.dst undef) _
  rw [hN]
  exact hK _ _ (h _ (HB.put i hi j hj he))
/-- A box is read whole. -/
theorem ldE {ty : TypeId} {p : Operand} {d : TypeDesc} {N : Tmp} (hd : o.dst = some N) (i : Nat) (HB : Bx w0 W L) (hi : L[i]? = some (g, cs, t)) (ho : o.op = .load ty p) (hgd : o.guard = none) (hp : a.eval p = .pointer (some ⟨g, 0, none⟩)) (hu : P.underlying ty = some d) (hst : (match d with | .struct _ | .array _ _ => true | _ => false) = true) (ht : (P.info? ty).map (·.size) = some cs.size)
    (h : wpList P ops Q rest (a.put o.dst (.agg cs)) W) : wpList P ops Q (o :: rest) a W := by
  refine wpList_plain hgd fun K hK => ?_
  unfold Oper.wp execOp
  simp only [ho, hp, Sem.run_bind, run_agg ty (HB.get i hi) hu hst ht]
  exact hK _ _ h
end
section
variable {P : Program} {ops : Array Oper} {rest : List Oper} {o : Oper} {a : Act} {Q : Exit → Act → World → Prop} {w0 W : World} {L : List (Nat × Array Value × Nat)} {g t : Nat} {cs cs' : Array Value}
/-- A new block, whatever tells of it. -/
theorem bxV {N : Tmp} (form : Nat → Value) (hd : o.dst = some N) (hgd : o.guard = none) (HB : Bx w0 W L)
    (hrun : (execOp a.eval o).run P W = .ok (.value (form W.heap.size)) (W.alloc (.cells cs t (0, 0))))
    (h : ∀ g w1, Aside0 (Bx w0 w1 ((g, cs, t) :: L)) → wpList P ops Q rest (a.put o.dst (form g)) w1) : wpList P ops Q (o :: rest) a W :=
  Kd.event_run hgd hrun (h _ _ ⟨HB.new rfl (blk_new W _) (below_alloc (Below.refl _ _) _)⟩)
end
/-- A row that fills its block. -/
theorem flat_seg {α : Type} (enc : α → List Value) (m : Nat) (hl : ∀ x, (enc x).length = m) : ∀ (xs : List α) (j : Nat) (x : α), xs[j]? = some x → ((xs.flatMap enc).drop (j * m)).take m = enc x
  | y :: ys, 0, x, h => by
    obtain rfl := Option.some.inj h
    rw [Nat.zero_mul, List.drop_zero, List.flatMap_cons, List.take_append_of_le_length (by rw [hl]; exact Nat.le_refl _), List.take_of_length_le (by rw [hl]; exact Nat.le_refl _)]
  | y :: ys, j + 1, x, h => by
    rw [List.flatMap_cons, show (j + 1) * m = (enc y).length + j * m by rw [hl, Nat.succ_mul, Nat.add_comm], List.drop_append, List.drop_of_length_le (by omega), List.nil_append, Nat.add_sub_cancel_left, flat_seg enc m hl ys j x h]
theorem flat_len {α : Type} (enc : α → List Value) (m : Nat) (hl : ∀ x, (enc x).length = m) (xs : List α) : (xs.flatMap enc).length = xs.length * m := by
  induction xs with
  | nil => simp
  | cons y ys ih => rw [List.flatMap_cons, List.length_append, ih, hl, List.length_cons, Nat.succ_mul, Nat.add_comm]
theorem R_blk {α : Type} {d : Kd α} (enc : α → List Value) (hM : ∀ w base ok x, d.M w base ok x (enc x)) (hl : ∀ x, (enc x).length = d.sz) {W : World} {base e g : Nat} {xs : List α} (h : W.heap[g]? = some (.cells (xs.flatMap enc).toArray e (0, 0))) (hg : base ≤ g) (hn : xs.length ≤ maxLen) :
    d.R e W base (fun k => k = g) (.slice (some ⟨g, 0, none⟩) xs.length xs.length) xs := by
  have hfl := flat_len enc d.sz hl xs
  refine ⟨fun k hk => ?_, xs.flatMap enc, ⟨hfl, .inr ⟨g, xs.length, _, rfl, hg, h, Nat.le_refl _, hn, by simpa using hfl, by show (xs.flatMap enc).take _ = _; rw [← hfl, List.take_length]⟩⟩, hfl, fun j x hx => ?_⟩
  · simp [Value.ownBlock] at hk; exact hk.symm
  · rw [flat_seg enc d.sz hl xs j x hx]
    exact hM _ _ _ x
/-- Rows of one's own, each of its own block, make a row of rows of one's own. -/
theorem S_blk {α : Type} {d : Kd α} {W : World} {base e g : Nat} {xs : List α} {inner : List Value} {ok : Nat → Prop} (okj : Nat → Nat → Prop) (hap : ∀ i j k, okj i k → okj j k → i = j) (hok : ∀ j k, okj j k → ok k ∧ k ≠ g) (hokg : ok g) (hl : inner.length = xs.length * d.sz) (h : W.heap[g]? = some (.cells inner.toArray e (0, 0))) (hg : base ≤ g) (hn : xs.length ≤ maxLen)
    (hrep : ∀ j x, xs[j]? = some x → d.M W base (okj j) x ((inner.drop (j * d.sz)).take d.sz)) : Kd.S d e W base ok (.slice (some ⟨g, 0, none⟩) xs.length xs.length) xs := by
  obtain ⟨f, hf⟩ := Kd.reps_tag (d := d) (w := W) (base := base) (ok := fun k => ok k ∧ some k ≠ (Value.slice (some ⟨g, 0, none⟩) xs.length xs.length).ownBlock) (xs := xs) (inner := inner) okj hap (fun j k hk => ⟨(hok j k hk).1, fun e_ => (hok j k hk).2 (by simpa [Value.ownBlock] using e_)⟩) hl hrep
  refine ⟨f, fun k hk => ?_, inner, ?_, hf⟩
  · simp [Value.ownBlock] at hk; rw [← hk]; exact hokg
  · rw [List.length_zipIdx]
    exact ⟨hl, .inr ⟨g, xs.length, _, rfl, hg, h, Nat.le_refl _, hn, hl, by show inner.take (xs.length * d.sz) = inner; rw [← hl, List.take_length]⟩⟩
def encI (n : Int) : List Value := [.int .i64 n]
def encB (b : Bool) : List Value := [.bool b]
def encN (x : S91) : List Value := [.int .i64 x.f0, .int .i64 x.f1]
def encT (x : S95) : List Value := [.int .i64 x.f0, .int .i64 x.f1, .int .i64 x.f2, .int .i64 x.f3, .int .i64 x.f4, .int .i64 x.f5]
def dk : List Int := [1, 2]
def dc1 : List S91 := [⟨3, 0⟩, ⟨1, 1⟩, ⟨9, 0⟩, ⟨4, 0⟩]
def dc2 : List S91 := [⟨26, 0⟩, ⟨5, 1⟩, ⟨8, 1⟩]
def dc3 : List S91 := [⟨5, 2⟩, ⟨1, 30⟩, ⟨19, 0⟩, ⟨6, 2⟩, ⟨25, 0⟩, ⟨24, 3⟩, ⟨3, 1⟩, ⟨1, 2⟩, ⟨9, 0⟩, ⟨4, 1⟩, ⟨25, 0⟩, ⟨23, 0⟩]
def dt : List S95 := [⟨2, 40, 30, 0, 1, 1⟩, ⟨1, 100, 90, 0, 1, 2⟩]
def ds : List Bool := [true, false, false, false, false, false, false, false]
def csP (g1 g5 g6 g7 : Nat) : Array Value := #[.slice (some ⟨g1, 0, none⟩) 2 2, .slice (some ⟨g5, 0, none⟩) 3 3, .slice (some ⟨g6, 0, none⟩) 2 2, .slice (some ⟨g7, 0, none⟩) 8 8]
/-- What impl.DemoProgram leaves, block by block. -/
def DemoL (g1 g2 g3 g4 g5 g6 g7 : Nat) : List (Nat × Array Value × Nat) :=
  [(g7, (ds.flatMap encB).toArray, 4), (g6, (dt.flatMap encT).toArray, 95), (g5, #[.slice (some ⟨g2, 0, none⟩) 4 4, .slice (some ⟨g3, 0, none⟩) 3 3, .slice (some ⟨g4, 0, none⟩) 12 12], 93), (g4, (dc3.flatMap encN).toArray, 91), (g3, (dc2.flatMap encN).toArray, 91), (g2, (dc1.flatMap encN).toArray, 91), (g1, (dk.flatMap encI).toArray, 3)]
theorem Bx.sub {w0 w : World} {L L' : List (Nat × Array Value × Nat)} (h : Bx w0 w L) (hs : L'.Sublist L) : Bx w0 w L' := ⟨h.1, fun p hp => h.2.1 p (hs.subset hp), h.2.2.sublist hs⟩
theorem made8 : madeCells #[.bool false] 8 = #[.bool false, .bool false, .bool false, .bool false, .bool false, .bool false, .bool false, .bool false] := by
  first
  | kernel_rfl
  | (apply Array.toList_inj.mp; simp [madeCells, Array.toList_range, List.range, List.range.loop]; done)
theorem mk8 {o : Oper} {a : Act} {W : World} {x y : Operand} (ho : o.op = .makeSlice 24 x y) (hx : a.eval x = .int .i64 8) (hy : a.eval y = .int .i64 8) : (execOp a.eval o).run Try.prog W = .ok (.value (.slice (some ⟨W.heap.size, 0, none⟩) 8 8)) (W.alloc (.cells (madeCells #[.bool false] 8) 4)) := by
  have hr := print_make_of (P := Try.prog) 24 4 (.bool false) 1 Try.underlying24 (by kernel_rfl) rfl (by decide) 8 (by omega) W
  unfold execOp
  simp only [ho, hx, hy, Sem.run_bind]
  rw [show (Instr.makeSlice 24 (.int .i64 8) (.int .i64 8)).run Try.prog W = _ from hr]
  rfl
set_option maxHeartbeats 8000000 in
set_option maxRecDepth 100000 in
theorem impl_Demo.blocks (w : World) : Calls Try.prog 26 #[] w fun e w' => ∃ g1 g2 g3 g4 g5 g6 g7, e = .returned (.agg (csP g1 g5 g6 g7)) ∧ Bx w w' (DemoL g1 g2 g3 g4 g5 g6 g7) := by
  have HX := Aside0.mk (Bx.nil w)
  have hu46 := Try.underlying46
  have hu91 := Try.underlying91
  have hu93 := Try.underlying93
  have hu95 := Try.underlying95
  go_enter Try.func26, Try.ntmps26
  go_wp2_with (first
    | ((with_reducible refine gate_dst (N := 0) rfl ?_); refine bxV (N := 0) (cs := #[.slice none 0 0, .slice none 0 0, .slice none 0 0, .slice none 0 0]) (t := 46) (fun g => .pointer (some ⟨g, 0, none⟩)) rfl rfl HX.out ?h0 ?_; (case h0 => first | (go_simp; done) | (go_simp; rfl)); clear HX; intro b0 w1 HX)
    | ((with_reducible refine gate_dst (N := 2) rfl ?_); refine bxV (N := 2) (cs := (dk.flatMap encI).toArray) (t := 3) (fun g => .slice (some ⟨g, 0, none⟩) 2 2) rfl rfl HX.out ?h1 ?_; (case h1 => first | (go_simp; done) | (go_simp; rfl)); clear HX; intro g1 w2 HX)
    | ((with_reducible refine gate_dst (N := 7) rfl ?_); refine bxV (N := 7) (cs := (dc1.flatMap encN).toArray) (t := 91) (fun g => .slice (some ⟨g, 0, none⟩) 4 4) rfl rfl HX.out ?h2 ?_; (case h2 => first | (go_simp; done) | (go_simp; rfl)); clear HX; intro g2 w3 HX)
    | ((with_reducible refine gate_dst (N := 12) rfl ?_); refine bxV (N := 12) (cs := (dc2.flatMap encN).toArray) (t := 91) (fun g => .slice (some ⟨g, 0, none⟩) 3 3) rfl rfl HX.out ?h3 ?_; (case h3 => first | (go_simp; done) | (go_simp; rfl)); clear HX; intro g3 w4 HX)
    | ((with_reducible refine gate_dst (N := 26) rfl ?_); refine bxV (N := 26) (cs := (dc3.flatMap encN).toArray) (t := 91) (fun g => .slice (some ⟨g, 0, none⟩) 12 12) rfl rfl HX.out ?h4 ?_; (case h4 => first | (go_simp; done) | (go_simp; rfl)); clear HX; intro g4 w5 HX)
    | ((with_reducible refine gate_dst (N := 28) rfl ?_); refine bxV (N := 28) (cs := #[.slice (some ⟨g2, 0, none⟩) 4 4, .slice (some ⟨g3, 0, none⟩) 3 3, .slice (some ⟨g4, 0, none⟩) 12 12]) (t := 93) (fun g => .slice (some ⟨g, 0, none⟩) 3 3) rfl rfl HX.out ?h5 ?_; (case h5 => first | (go_simp; done) | (go_simp; rfl)); clear HX; intro g5 w6 HX)
    | ((with_reducible refine gate_dst (N := 31) rfl ?_); refine bxV (N := 31) (cs := (dt.flatMap encT).toArray) (t := 95) (fun g => .slice (some ⟨g, 0, none⟩) 2 2) rfl rfl HX.out ?h6 ?_; (case h6 => first | (go_simp; done) | (go_simp; rfl)); clear HX; intro g6 w7 HX)
    | ((with_reducible refine gate_dst (N := 32) rfl ?_); refine bxV (N := 32) (cs := madeCells #[.bool false] 8) (t := 4) (fun g => .slice (some ⟨g, 0, none⟩) 8 8) rfl rfl HX.out ?h7 ?_; (case h7 => exact mk8 rfl rfl rfl); clear HX; intro g7 w8 HX)
    | ((with_reducible refine gate_dst (N := 1) rfl ?_); refine bxV (N := 1) (cs := #[.slice none 0 0, .slice none 0 0, .slice none 0 0, .slice none 0 0]) (t := 46) (fun g => .pointer (some ⟨g, 0, none⟩)) rfl rfl HX.out ?h8 ?_; (case h8 => first | (go_simp; done) | (go_simp; rfl)); clear HX; intro b1 w9 HX)
    | ((with_reducible refine gate_store (t := 46) (p := 1) rfl ?_); refine stE (cs' := csP g1 g5 g6 g7) (u := .agg (csP g1 g5 g6 g7)) (seg := (csP g1 g5 g6 g7).toList) 0 0 HX.out rfl rfl rfl rfl rfl rfl rfl (by kernel_rfl) (by intro q hq; simp only [csP, List.mem_cons, List.not_mem_nil, or_false] at hq; rcases hq with rfl | rfl | rfl | rfl <;> rfl) (Nat.le_refl 4) rfl ?_; intro w10 h1; have n_ := Aside0.mk h1; clear HX h1; have HX := n_; clear n_; have hk3 : w10.cell? ⟨b1, 3, none⟩ = some (.slice (some ⟨g7, 0, none⟩) 8 8) := (blk_cell (HX.out.get 0 rfl) 3).trans rfl)
    | ((with_reducible refine gate_store (t := 4) (p := 36) rfl ?_); refine stE (cs' := (ds.flatMap encB).toArray) (u := .bool true) (seg := [.bool true]) 1 0 HX.out rfl rfl rfl rfl rfl rfl rfl (by kernel_rfl) (by intro q hq; simp only [List.mem_cons, List.not_mem_nil, or_false] at hq; subst hq; rfl) (by rw [made8]; decide) (by rw [made8]; rfl) ?_; intro w11 h1; have n_ := Aside0.mk h1; clear HX h1; have HX := n_; clear n_)
    | ((with_reducible refine gate_dst (N := 37) rfl ?_); refine ldE (N := 37) rfl 0 HX.out rfl rfl rfl rfl Try.underlying46 rfl (by kernel_rfl) ?_)
    | ((with_reducible refine gate_store (t := 46) (p := 0) rfl ?_); refine stE (cs' := csP g1 g5 g6 g7) (u := .agg (csP g1 g5 g6 g7)) (seg := (csP g1 g5 g6 g7).toList) 8 0 HX.out rfl rfl rfl rfl rfl rfl rfl (by kernel_rfl) (by intro q hq; simp only [csP, List.mem_cons, List.not_mem_nil, or_false] at hq; rcases hq with rfl | rfl | rfl | rfl <;> rfl) (Nat.le_refl 4) rfl ?_; intro w12 h1; have n_ := Aside0.mk h1; clear HX h1; have HX := n_; clear n_))
  refine bodyPost_ret (results_cell_row rfl _ _ b0 46 (csP g1 g5 g6 g7) (0, 0) _ rfl (HX.out.get 8 rfl) Try.underlying46 rfl (by kernel_rfl)) rfl ?_
  refine ⟨g1, g2, g3, g4, g5, g6, g7, rfl, ?_⟩
  have h_ := HX.out.sub ((List.take_sublist 7 _).trans (List.drop_sublist 1 _))
  exact h_
def drt : List S93 := [⟨dc1⟩, ⟨dc2⟩, ⟨dc3⟩]
def okD (g2 g3 g4 : Nat) (j k : Nat) : Prop := (j = 0 ∧ k = g2) ∨ (j = 1 ∧ k = g3) ∨ (j = 2 ∧ k = g4)
/-- What impl.DemoProgram leaves, as rows of one's own. -/
theorem rowsD {w0 W : World} {L : List (Nat × Array Value × Nat)} {g1 g2 g3 g4 g5 g6 g7 : Nat} (h : Bx w0 W (L ++ DemoL g1 g2 g3 g4 g5 g6 g7)) :
    Kd.R (Kd.int .i64) 3 W w0.heap.size (fun k => k = g1) (.slice (some ⟨g1, 0, none⟩) dk.length 2) dk ∧ Kd.S k93 93 W w0.heap.size (fun k => k = g5 ∨ k = g2 ∨ k = g3 ∨ k = g4) (.slice (some ⟨g5, 0, none⟩) drt.length 3) drt ∧ Kd.R k95 95 W w0.heap.size (fun k => k = g6) (.slice (some ⟨g6, 0, none⟩) dt.length 2) dt ∧ Kd.R Kd.bool 4 W w0.heap.size (fun k => k = g7) (.slice (some ⟨g7, 0, none⟩) ds.length 8) ds := by
  have hb : ∀ p ∈ DemoL g1 g2 g3 g4 g5 g6 g7, w0.heap.size ≤ p.1 ∧ W.heap[p.1]? = some (.cells p.2.1 p.2.2 (0, 0)) := fun p hp => h.2.1 p (List.mem_append_right _ hp)
  have hd := (List.pairwise_append.1 h.2.2).2.1
  have q1 := hb (g1, (dk.flatMap encI).toArray, 3) (by simp [DemoL])
  have q2 := hb (g2, (dc1.flatMap encN).toArray, 91) (by simp [DemoL])
  have q3 := hb (g3, (dc2.flatMap encN).toArray, 91) (by simp [DemoL])
  have q4 := hb (g4, (dc3.flatMap encN).toArray, 91) (by simp [DemoL])
  have q5 := hb (g5, #[.slice (some ⟨g2, 0, none⟩) 4 4, .slice (some ⟨g3, 0, none⟩) 3 3, .slice (some ⟨g4, 0, none⟩) 12 12], 93) (by simp [DemoL])
  have q6 := hb (g6, (dt.flatMap encT).toArray, 95) (by simp [DemoL])
  have q7 := hb (g7, (ds.flatMap encB).toArray, 4) (by simp [DemoL])
  simp only [DemoL, List.pairwise_cons, List.mem_cons, List.not_mem_nil, or_false, forall_eq_or_imp, forall_eq] at hd
  obtain ⟨⟨n76, n75, n74, n73, n72, n71⟩, ⟨n65, n64, n63, n62, n61⟩, ⟨n54, n53, n52, n51⟩, ⟨n43, n42, n41⟩, ⟨n32, n31⟩, n21, _⟩ := hd
  have rI : ∀ (g : Nat) (xs : List S91), W.heap[g]? = some (.cells (xs.flatMap encN).toArray 91 (0, 0)) → w0.heap.size ≤ g → xs.length ≤ maxLen → Kd.R k91 91 W w0.heap.size (fun k => k = g) (.slice (some ⟨g, 0, none⟩) xs.length xs.length) xs :=
    fun g xs hg hb hn => R_blk (d := k91) encN (fun w base ok x => k91_mkM w base ok x) (fun x => rfl) hg hb hn
  refine ⟨R_blk (d := Kd.int .i64) encI (fun w base ok x => rfl) (fun x => rfl) q1.2 q1.1 (by decide), ?_, R_blk (d := k95) encT (fun w base ok x => k95_mkM w base ok x) (fun x => rfl) q6.2 q6.1 (by decide), R_blk (d := Kd.bool) encB (fun w base ok x => rfl) (fun x => rfl) q7.2 q7.1 (by decide)⟩
  refine S_blk (d := k93) (xs := drt) (inner := [.slice (some ⟨g2, 0, none⟩) 4 4, .slice (some ⟨g3, 0, none⟩) 3 3, .slice (some ⟨g4, 0, none⟩) 12 12]) (okD g2 g3 g4) ?_ ?_ (.inl rfl) rfl q5.2 q5.1 (by decide) ?_
  · intro i j k hi hj
    rcases hi with ⟨rfl, rfl⟩ | ⟨rfl, rfl⟩ | ⟨rfl, rfl⟩ <;> rcases hj with ⟨rfl, e_⟩ | ⟨rfl, e_⟩ | ⟨rfl, e_⟩ <;> first | rfl | exact absurd e_ (by omega)
  · intro j k hj
    rcases hj with ⟨rfl, rfl⟩ | ⟨rfl, rfl⟩ | ⟨rfl, rfl⟩
    · exact ⟨.inr (.inl rfl), by omega⟩
    · exact ⟨.inr (.inr (.inl rfl)), by omega⟩
    · exact ⟨.inr (.inr (.inr rfl)), by omega⟩
  · intro j x hx
    match j, hx with
    | 0, hx => obtain rfl := Option.some.inj hx; exact k93_mkM _ _ _ _ (Kd.R_mono (rI g2 dc1 q2.2 q2.1 (by decide)) (fun k hk => .inl ⟨rfl, hk⟩))
    | 1, hx => obtain rfl := Option.some.inj hx; exact k93_mkM _ _ _ _ (Kd.R_mono (rI g3 dc2 q3.2 q3.1 (by decide)) (fun k hk => .inr (.inl ⟨rfl, hk⟩)))
    | 2, hx => obtain rfl := Option.some.inj hx; exact k93_mkM _ _ _ _ (Kd.R_mono (rI g4 dc3 q4.2 q4.1 (by decide)) (fun k hk => .inr (.inr ⟨rfl, hk⟩)))
    | j + 3, hx => cases hx
end Go.Proofs.Ytjgdfbcjlebniaa.MFnExactDemoProgram
