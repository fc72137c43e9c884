/- Proved: the tied card of the law FnExactInstrText of the given program: for every input the law returns true, the listed package-level variables reading as the program's own initialisers lay them (tied by the given Tie text). Conditions: none beyond the card's own. -/
import Derived.Test.YtjgdfbcjlebniaaDoorCards
import Derived.Test.YtjgdfbcjlebniaaDoorTie
import Derived.Test.YtjgdfbcjlebniaaDoorMFnExactInstrTextx0
import Derived.Test.YtjgdfbcjlebniaaDoorMFnExactInstrTextx1
import Derived.Test.YtjgdfbcjlebniaaDoorMFnExactInstrTextx2
import Derived.Test.YtjgdfbcjlebniaaDoorMFnExactInstrTextx3
import Derived.Test.YtjgdfbcjlebniaaDoorMFnExactInstrTextx4
import Derived.Test.YtjgdfbcjlebniaaDoorMFnExactInstrTextx5
import Derived.Test.YtjgdfbcjlebniaaDoorMFnExactInstrTextx6
import Derived.Test.YtjgdfbcjlebniaaDoorMFnExactInstrTextx7
import Derived.Test.YtjgdfbcjlebniaaDoorMFnExactInstrTextx8
import Derived.Shelf.LaysM
import Derived.Shelf.Strings.SplitShaped
import Derived.Lib.LaidTab
import Derived.Lib.ItoaLen
import Derived.Lib.AppendIntMem
import Derived.Shelf.Strconv.Itoa3
import Derived.Stop.LaidErr
import Derived.MakeChecks
import Derived.LaidMore
import Derived.WalkKit
import Derived.ProofKit
import Derived.OpenShut
import Derived.ShutString
import Derived.ChangeOld
import Derived.Below
import Derived.SizedLaws
import Derived.ChangeSame
import Derived.Stop.Joined
import Derived.SevenTiedAt
set_option linter.unusedVariables false
set_option linter.unusedSimpArgs false
namespace Go.Proofs
open Go.Shelf
def Tryd.laysM157_ren : Go.Shelf.Ren := ⟨fun | 157 => 57 | 229 => 72 | 199 => 73 | 261 => 79 | 311 => 81 | 312 => 82 | n => n, fun | 9 => 9 | 31 => 64 | 3 => 3 | 5 => 5 | 4 => 4 | 119 => 84 | 0 => 0 | 40 => 86 | 152 => 90 | 21 => 21 | 154 => 92 | 51 => 93 | 141 => 95 | 196 => 100 | 193 => 97 | 198 => 103 | 49 => 101 | 194 => 98 | 201 => 106 | 226 => 114 | 46 => 115 | 227 => 116 | n => n, fun | 0 => 0 | 6 => 1 | n => n⟩
theorem Tryd.laysM157 : Go.Proofs.LaysM.n157 Tryd.prog Tryd.laysM157_ren := {
  mixed := by kernel_rfl
  f157 := Tryd.func57.trans (congrArg some (by kernel_rfl))
  f199 := Tryd.func73.trans (congrArg some (by kernel_rfl))
  f229 := Tryd.func72.trans (congrArg some (by kernel_rfl))
  f261 := Tryd.func79.trans (congrArg some (by kernel_rfl))
  f311 := Tryd.func81.trans (congrArg some (by kernel_rfl))
  f312 := Tryd.func82.trans (congrArg some (by kernel_rfl))
  t0 := Tryd.underlying0
  a0 := Tryd.isAgg0
  z0 := Tryd.sizeOf0
  v0 := Tryd.zeroValue0
  t3 := Tryd.underlying3
  a3 := Tryd.isAgg3
  z3 := Tryd.sizeOf3
  v3 := Tryd.zeroValue3
  t4 := Tryd.underlying4
  a4 := Tryd.isAgg4
  z4 := Tryd.sizeOf4
  v4 := Tryd.zeroValue4
  t5 := Tryd.underlying5
  a5 := Tryd.isAgg5
  z5 := Tryd.sizeOf5
  v5 := Tryd.zeroValue5
  t9 := Tryd.underlying9
  a9 := Tryd.isAgg9
  z9 := Tryd.sizeOf9
  v9 := Tryd.zeroValue9
  t21 := Tryd.underlying21
  a21 := Tryd.isAgg21
  z21 := Tryd.sizeOf21
  v21 := Tryd.zeroValue21
  t31 := Tryd.underlying64
  a31 := Tryd.isAgg64
  z31 := Tryd.sizeOf64
  v31 := Tryd.zeroValue64
  t40 := Tryd.underlying86
  a40 := Tryd.isAgg86
  z40 := Tryd.sizeOf86
  v40 := Tryd.zeroValue86
  t46 := Tryd.underlying115
  a46 := Tryd.isAgg115
  z46 := Tryd.sizeOf115
  v46 := Tryd.zeroValue115
  t49 := Tryd.underlying101
  a49 := Tryd.isAgg101
  z49 := Tryd.sizeOf101
  v49 := Tryd.zeroValue101
  t51 := Tryd.underlying93
  a51 := Tryd.isAgg93
  z51 := Tryd.sizeOf93
  v51 := Tryd.zeroValue93
  t119 := Tryd.underlying84
  a119 := Tryd.isAgg84
  z119 := Tryd.sizeOf84
  t141 := Tryd.underlying95
  a141 := Tryd.isAgg95
  z141 := Tryd.sizeOf95
  v141 := Tryd.zeroValue95
  t152 := Tryd.underlying90
  a152 := Tryd.isAgg90
  z152 := Tryd.sizeOf90
  v152 := Tryd.zeroValue90
  t154 := Tryd.underlying92
  a154 := Tryd.isAgg92
  z154 := Tryd.sizeOf92
  v154 := Tryd.zeroValue92
  t193 := Tryd.underlying97
  a193 := Tryd.isAgg97
  z193 := Tryd.sizeOf97
  v193 := Tryd.zeroValue97
  t194 := Tryd.underlying98
  a194 := Tryd.isAgg98
  z194 := Tryd.sizeOf98
  v194 := Tryd.zeroValue98
  t196 := Tryd.underlying100
  a196 := Tryd.isAgg100
  z196 := Tryd.sizeOf100
  v196 := Tryd.zeroValue100
  t198 := Tryd.underlying103
  a198 := Tryd.isAgg103
  z198 := Tryd.sizeOf103
  v198 := Tryd.zeroValue103
  t201 := Tryd.underlying106
  a201 := Tryd.isAgg106
  z201 := Tryd.sizeOf106
  v201 := Tryd.zeroValue106
  t226 := Tryd.underlying114
  a226 := Tryd.isAgg114
  z226 := Tryd.sizeOf114
  v226 := Tryd.zeroValue114
  t227 := Tryd.underlying116
  a227 := Tryd.isAgg116
  z227 := Tryd.sizeOf116
  v227 := Tryd.zeroValue116
  g0 := by kernel_rfl
  g6 := by kernel_rfl
  i0 := by kernel_rfl
  i3 := by kernel_rfl
  i4 := by kernel_rfl
  i5 := by kernel_rfl
  i9 := by kernel_rfl
  i21 := by kernel_rfl
  i31 := by kernel_rfl
  i40 := by kernel_rfl
  i46 := by kernel_rfl
  i49 := by kernel_rfl
  i51 := by kernel_rfl
  i141 := by kernel_rfl
  i152 := by kernel_rfl
  i154 := by kernel_rfl
  i193 := by kernel_rfl
  i194 := by kernel_rfl
  i196 := by kernel_rfl
  i198 := by kernel_rfl
  i201 := by kernel_rfl
  i226 := by kernel_rfl
  i227 := by kernel_rfl
  m0 := by kernel_rfl
  m6 := by kernel_rfl }
open Go.RowKit Go.Lib in
theorem Tryd.strings_Fields_laid (s : ByteArray) (w : World) (hs : s.size < 4294967281) (hascii : ∀ (j : Nat) b, s.data.toList[j]? = some b → b.toNat < 128) (htab : Lib.TabIs Tryd.prog w "strings.asciiSpace" .u8 Lib.asciiSpaceTab) :
    Calls Tryd.prog 57 #[.string s] w fun e w' =>
      e = .returned (.slice (some ⟨w.heap.size, 0, none⟩) (Lib.fields s.data.toList).length (Lib.fields s.data.toList).length) ∧ w' = w.alloc (.cells ((Lib.fields s.data.toList).map fun l => Value.string ⟨l.toArray⟩).toArray 9) := Any.strings_Fields_laid Tryd.laysM157 s w hs hascii htab
def Tryd.laysM171_ren : Go.Shelf.Ren := ⟨fun | 171 => 65 | 243 => 77 | 246 => 80 | 283 => 83 | 284 => 84 | 285 => 85 | 286 => 86 | 129 => 88 | 317 => 87 | 318 => 89 | 319 => 90 | 320 => 91 | 337 => 92 | 338 => 93 | n => n, fun | 3 => 3 | 9 => 9 | 2 => 2 | 4 => 4 | 171 => 108 | 0 => 0 | 53 => 109 | 37 => 29 | 5 => 5 | 173 => 112 | 212 => 118 | 51 => 93 | 20 => 20 | 213 => 119 | 46 => 115 | 232 => 122 | 233 => 123 | n => n, fun | 17 => 2 | 18 => 3 | 19 => 4 | n => n⟩
theorem Tryd.laysM171 : Go.Proofs.LaysM.n171 Tryd.prog Tryd.laysM171_ren := {
  mixed := by kernel_rfl
  f129 := Tryd.func88.trans (congrArg some (by kernel_rfl))
  f171 := Tryd.func65.trans (congrArg some (by kernel_rfl))
  f243 := Tryd.func77.trans (congrArg some (by kernel_rfl))
  f246 := Tryd.func80.trans (congrArg some (by kernel_rfl))
  f283 := Tryd.func83.trans (congrArg some (by kernel_rfl))
  f284 := Tryd.func84.trans (congrArg some (by kernel_rfl))
  f285 := Tryd.func85.trans (congrArg some (by kernel_rfl))
  f286 := Tryd.func86.trans (congrArg some (by kernel_rfl))
  f317 := Tryd.func87.trans (congrArg some (by kernel_rfl))
  f318 := Tryd.func89.trans (congrArg some (by kernel_rfl))
  f319 := Tryd.func90.trans (congrArg some (by kernel_rfl))
  f320 := Tryd.func91.trans (congrArg some (by kernel_rfl))
  f337 := Tryd.func92.trans (congrArg some (by kernel_rfl))
  f338 := Tryd.func93.trans (congrArg some (by kernel_rfl))
  t0 := Tryd.underlying0
  a0 := Tryd.isAgg0
  z0 := Tryd.sizeOf0
  v0 := Tryd.zeroValue0
  t2 := Tryd.underlying2
  a2 := Tryd.isAgg2
  z2 := Tryd.sizeOf2
  v2 := Tryd.zeroValue2
  t3 := Tryd.underlying3
  a3 := Tryd.isAgg3
  z3 := Tryd.sizeOf3
  v3 := Tryd.zeroValue3
  t4 := Tryd.underlying4
  a4 := Tryd.isAgg4
  z4 := Tryd.sizeOf4
  v4 := Tryd.zeroValue4
  t5 := Tryd.underlying5
  a5 := Tryd.isAgg5
  z5 := Tryd.sizeOf5
  v5 := Tryd.zeroValue5
  t9 := Tryd.underlying9
  a9 := Tryd.isAgg9
  z9 := Tryd.sizeOf9
  v9 := Tryd.zeroValue9
  t20 := Tryd.underlying20
  a20 := Tryd.isAgg20
  z20 := Tryd.sizeOf20
  v20 := Tryd.zeroValue20
  t37 := Tryd.underlying29
  a37 := Tryd.isAgg29
  z37 := Tryd.sizeOf29
  v37 := Tryd.zeroValue29
  t46 := Tryd.underlying115
  a46 := Tryd.isAgg115
  z46 := Tryd.sizeOf115
  v46 := Tryd.zeroValue115
  t51 := Tryd.underlying93
  a51 := Tryd.isAgg93
  z51 := Tryd.sizeOf93
  v51 := Tryd.zeroValue93
  t53 := Tryd.underlying109
  a53 := Tryd.isAgg109
  z53 := Tryd.sizeOf109
  v53 := Tryd.zeroValue109
  t171 := Tryd.underlying108
  a171 := Tryd.isAgg108
  z171 := Tryd.sizeOf108
  v171 := Tryd.zeroValue108
  t173 := Tryd.underlying112
  a173 := Tryd.isAgg112
  z173 := Tryd.sizeOf112
  v173 := Tryd.zeroValue112
  t212 := Tryd.underlying118
  a212 := Tryd.isAgg118
  z212 := Tryd.sizeOf118
  v212 := Tryd.zeroValue118
  t213 := Tryd.underlying119
  a213 := Tryd.isAgg119
  z213 := Tryd.sizeOf119
  t232 := Tryd.underlying122
  a232 := Tryd.isAgg122
  z232 := Tryd.sizeOf122
  v232 := Tryd.zeroValue122
  t233 := Tryd.underlying123
  a233 := Tryd.isAgg123
  z233 := Tryd.sizeOf123
  v233 := Tryd.zeroValue123
  g17 := by kernel_rfl
  g18 := by kernel_rfl
  g19 := by kernel_rfl
  i0 := by kernel_rfl
  i2 := by kernel_rfl
  i3 := by kernel_rfl
  i4 := by kernel_rfl
  i5 := by kernel_rfl
  i9 := by kernel_rfl
  i20 := by kernel_rfl
  i37 := by kernel_rfl
  i46 := by kernel_rfl
  i51 := by kernel_rfl
  i53 := by kernel_rfl
  i171 := by kernel_rfl
  i173 := by kernel_rfl
  i212 := by kernel_rfl
  i232 := by kernel_rfl
  i233 := by kernel_rfl
  m17 := by kernel_rfl
  m18 := by kernel_rfl
  m19 := by kernel_rfl }
open Go.RowKit Go.Sort Go.Lib in
theorem Tryd.strconv_Itoa (n : Int) (h0 : -9223372036854775808 ≤ n) (h1 : n ≤ 9223372036854775807) (w : World) (htab : Lib.TabIs Tryd.prog w "internal/strconv.uint64pow10" .u64 Lib.pow10Tab) :
    Calls Tryd.prog 65 #[.int .i64 n] w fun e w' => e = .returned (.string ⟨(Lib.itoa n).toArray⟩) ∧ ∃ k os, w' = grow (w.drewN k) os := Any.strconv_Itoa Tryd.laysM171 n h0 h1 w htab

end Go.Proofs
namespace Go.Proofs.YtjgdfbcjlebniaaDoor.DInstrText
open Go.ChangeShapes Go.WideShapes Go.ChangeAt Go.RowKit
open Go.ChangeMaps (open_string shut_string)
open Go.Proofs.YtjgdfbcjlebniaaDoor.MFnExactInstrText Go.Proofs.YtjgdfbcjlebniaaDoorW.PrintWords Go.Proofs.YtjgdfbcjlebniaaDoorW.PrintLast
theorem tab_below {name : String} {kd_ : IntKind} {zs : List Int} {w w' : World} (h : Lib.TabIs Tryd.prog w name kd_ zs) (hb : Below w.heap.size w w') : Lib.TabIs Tryd.prog w' name kd_ zs := by
  unfold Lib.TabIs World.var? at h ⊢
  cases hg : Tryd.prog.globalNamed name with
  | none => simp [hg] at h
  | some g =>
    simp only [hg, Option.bind_some] at h ⊢
    have hlt : g < w.heap.size := by
      rcases Nat.lt_or_ge g w.heap.size with h' | h'
      · exact h'
      · simp [Array.getElem?_eq_none h'] at h
    rw [hb.block g hlt]
    exact h
theorem bcell0 {W w1 : World} (hb : Below W.heap.size W w1) : ∀ b o, b < W.heap.size → w1.cell? ⟨b, o, none⟩ = W.cell? ⟨b, o, none⟩ := fun b o h => hb.cell (p := ⟨b, o, none⟩) h
/-- What a call hands back that makes a list of words. -/
def Words (ws : List ByteArray) (w : World) (e : Ending) (w' : World) : Prop := ∃ A c, e = .returned (.slice A ws.length c) ∧ ws.length ≤ c ∧ Kd.C Kd.string w' A ws.length ws ∧ Below w.heap.size w w'
theorem words_of_fields (s : ByteArray) (ws : List ByteArray) (hw : (Lib.fields s.data.toList).map (fun l => (⟨l.toArray⟩ : ByteArray)) = ws) (hn : ws.length ≤ 1000) (hs : s.size < 4294967281) (ha : s.data.toList.all (fun b => decide (b.toNat < 128)) = true) (w : World) (hT : Lib.TabIs Tryd.prog w "strings.asciiSpace" .u8 Lib.asciiSpaceTab) :
    Calls Tryd.prog 57 #[.string s] w (Words ws w) := by
  refine (Tryd.strings_Fields_laid s w hs (fun j b h => of_decide_eq_true (List.all_eq_true.1 ha b (List.mem_of_getElem? h))) hT).mono ?_
  rintro e w' ⟨rfl, rfl⟩
  have e0 : ((Lib.fields s.data.toList).map fun l => Value.string ⟨l.toArray⟩) = ws.map Value.string := by rw [← hw, List.map_map]; rfl
  have e2 : (Lib.fields s.data.toList).length = ws.length := by rw [← hw, List.length_map]
  rw [e0, e2]
  refine ⟨_, _, rfl, Nat.le_refl _, ⟨rfl, by omega, fun _ => ⟨_, rfl, fun j p hp => ⟨[.string p], rfl, rfl, fun i u hu => ?_⟩⟩⟩, (Below.refl _ _).alloc (Nat.le_refl _) _⟩
  have hi : i = 0 := by
    rcases Nat.eq_zero_or_pos i with h | h
    · exact h
    · rw [List.getElem?_eq_none (by simp; omega)] at hu; cases hu
  subst hi
  obtain rfl : Value.string p = u := by simpa using hu
  have e1 : Kd.string.sz = 1 := rfl
  rw [e1, Nat.mul_one, Nat.add_zero, Go.Proofs.YtjgdfbcjlebniaaDoorW.PrintWords.add_plain]
  rw [World.cell?_alloc_at _ _ _ _ rfl, List.getElem?_toArray, List.getElem?_map, hp]
  rfl
/-- The place of a text among others. -/
def plc : List ByteArray → ByteArray → Int → Int
  | [], _, _ => -1
  | w :: ws, s, i => if w.toList = s.toList then i else plc ws s (i + 1)
theorem str_at {w : World} {A : Option Addr} {n : Nat} {xs : List ByteArray} (h : Kd.C Kd.string w A n xs) (i : Int) (h0 : 0 ≤ i) (h1 : i < n) : ∃ ad, A = some ad ∧ w.cell? (ad.add i.toNat) = some (.string (xs.getD i.toNat ByteArray.empty)) := by
  obtain ⟨ad, c, e, _, hK, hc⟩ := Kd.C_get h ByteArray.empty i h0 h1
  have hK' : c = [Value.string (xs.getD i.toNat ByteArray.empty)] := hK
  subst hK'
  have q := hc 0 _ rfl
  have e1 : Kd.string.sz = 1 := rfl
  rw [e1, Nat.mul_one, Nat.add_zero] at q
  exact ⟨ad, e, q⟩
def ow : List ByteArray := [(⟨#[112, 117, 115, 104]⟩ : ByteArray), (⟨#[102, 108, 97, 103]⟩ : ByteArray), (⟨#[108, 111, 97, 100]⟩ : ByteArray), (⟨#[115, 116, 111, 114, 101]⟩ : ByteArray), (⟨#[105, 110]⟩ : ByteArray), (⟨#[111, 117, 116]⟩ : ByteArray), (⟨#[112, 101, 101, 107]⟩ : ByteArray), (⟨#[112, 111, 107, 101]⟩ : ByteArray), (⟨#[97, 100, 100]⟩ : ByteArray), (⟨#[115, 117, 98]⟩ : ByteArray), (⟨#[109, 117, 108]⟩ : ByteArray), (⟨#[100, 105, 118]⟩ : ByteArray), (⟨#[108, 101, 115, 115]⟩ : ByteArray), (⟨#[115, 97, 109, 101]⟩ : ByteArray), (⟨#[97, 110, 100]⟩ : ByteArray), (⟨#[111, 114]⟩ : ByteArray), (⟨#[110, 111, 116]⟩ : ByteArray), (⟨#[115, 101, 108]⟩ : ByteArray), (⟨#[98, 108, 111, 99, 107]⟩ : ByteArray), (⟨#[118, 97, 108, 117, 101]⟩ : ByteArray), (⟨#[105, 102]⟩ : ByteArray), (⟨#[101, 108, 115, 101]⟩ : ByteArray), (⟨#[101, 110, 100]⟩ : ByteArray), (⟨#[114, 101, 112, 101, 97, 116]⟩ : ByteArray), (⟨#[99, 117, 116]⟩ : ByteArray), (⟨#[99, 97, 108, 108]⟩ : ByteArray)]
theorem opNames_calls (w : World) (hT : Lib.TabIs Tryd.prog w "strings.asciiSpace" .u8 Lib.asciiSpaceTab) : Calls Tryd.prog 38 #[] w (Words ow w) := by
  have cF := words_of_fields (⟨#[112, 117, 115, 104, 32, 102, 108, 97, 103, 32, 108, 111, 97, 100, 32, 115, 116, 111, 114, 101, 32, 105, 110, 32, 111, 117, 116, 32, 112, 101, 101, 107, 32, 112, 111, 107, 101, 32, 97, 100, 100, 32, 115, 117, 98, 32, 109, 117, 108, 32, 100, 105, 118, 32, 108, 101, 115, 115, 32, 115, 97, 109, 101, 32, 97, 110, 100, 32, 111, 114, 32, 110, 111, 116, 32, 115, 101, 108, 32, 98, 108, 111, 99, 107, 32, 118, 97, 108, 117, 101, 32, 105, 102, 32, 101, 108, 115, 101, 32, 101, 110, 100, 32, 114, 101, 112, 101, 97, 116, 32, 99, 117, 116, 32, 99, 97, 108, 108]⟩ : ByteArray) ow (by kernel_rfl) (by decide +kernel) (by decide +kernel) (by kernel_rfl) w hT
  clear hT
  go_enter Tryd.func38, Tryd.ntmps38
  go_wp2_with (first | (go_at_call 57; refine cF.mono ?_; rintro e w' ⟨A, c, rfl, hl, hC, hb⟩; have HL := Aside0.mk hl; have HC := Aside0.mk hC; have HB := Aside0.mk hb; clear hl hC hb))
  go_ret
  exact ⟨A, c, rfl, HL.out, HC.out, HB.out⟩
def owAt (a : Int) : ByteArray := if 1 ≤ a ∧ a ≤ 26 then ow.getD (a - 1).toNat ByteArray.empty else ⟨#[]⟩
theorem isOp_f (a : Int) : impl_isOp.f a = some (decide (1 ≤ a ∧ a ≤ 26)) := by
  unfold impl_isOp.f impl_within.f
  by_cases h0 : 1 ≤ a
  · rw [if_pos h0]; simp [h0]
  · rw [if_neg h0, decide_eq_false (fun h => h0 h.1)]; rfl
theorem OpName_calls (a : Int) (w : World) (hT : Lib.TabIs Tryd.prog w "strings.asciiSpace" .u8 Lib.asciiSpaceTab) :
    Calls Tryd.prog 14 #[.int .i64 a] w fun e w' => e = .returned (.string (owAt a)) ∧ Below w.heap.size w w' := by
  by_cases h : 1 ≤ a ∧ a ≤ 26
  · have ha : owAt a = ow.getD (a - 1).toNat ByteArray.empty := if_pos h
    have cI := impl_isOp.calls a true w (by rw [isOp_f, decide_eq_true h])
    obtain ⟨x, hx⟩ : ∃ x, x = ow.getD (a - 1).toNat ByteArray.empty := ⟨_, rfl⟩
    rw [ha, ← hx]
    have HX := Aside0.mk hx
    have HT := Aside0.mk hT
    obtain ⟨h0, h26⟩ := h
    have hlt : a - 1 < (ow.length : Int) := by have : ow.length = 26 := by decide
                                               omega
    have h00 : 0 ≤ a - 1 := by omega
    have HI := Aside0.mk h00
    have HTN := Aside0.mk (show (a - 1).toNat = a.toNat - 1 by omega)
    have HJ := Aside0.mk hlt
    have p5 := eq_true h00
    have q5 := eq_true hlt
    clear hT ha hlt hx h00
    go_enter Tryd.func14, Tryd.ntmps14
    go_wp2_with (first | (go_at_call 37; refine cI.mono ?_; rintro e w1 ⟨rfl, hd⟩; have HB1 := Aside0.mk hd.below; clear hd) | (go_at_call 38; refine (opNames_calls _ (tab_below HT.out HB1.out)).mono ?_; rintro e w2 ⟨A, c, rfl, hl, hC, hb⟩; have HB2 := Aside0.mk (below_then HB1.out HB1.out.size hb); obtain ⟨ad, rfl, hcell⟩ := str_at hC (a - 1) HI.out HJ.out; rw [← HX.out, HTN.out] at hcell; clear hl hC hb))
    go_ret
    exact ⟨rfl, HB2.out⟩
  · have ha : owAt a = ⟨#[]⟩ := if_neg h
    have cI := impl_isOp.calls a false w (by rw [isOp_f, decide_eq_false h])
    rw [ha]
    clear hT ha h
    go_enter Tryd.func14, Tryd.ntmps14
    go_wp2_with (first | (go_at_call 37; refine cI.mono ?_; rintro e w1 ⟨rfl, hd⟩; have HB1 := Aside0.mk hd.below; clear hd))
    go_ret
    exact ⟨rfl, HB1.out⟩
theorem specOpName (a : Int) : spec_OpName.f a = some (owAt a) := by
  have h1 : spec_l02Op.f a = some (decide (1 ≤ a ∧ a ≤ 26)) := by
    unfold spec_l02Op.f spec_l01In.f
    by_cases h0 : 1 ≤ a
    · rw [if_pos h0]; simp [h0]
    · rw [if_neg h0, decide_eq_false (fun h => h0 h.1)]; rfl
  have hlen : ow.length = 26 := by decide
  unfold spec_OpName.f
  rw [h1]
  simp only [Option.bind_some]
  unfold owAt
  by_cases h : 1 ≤ a ∧ a ≤ 26
  · have hw : wrap64 (a - 1) = a - 1 := by unfold wrap64; omega
    rw [decide_eq_true h, if_pos rfl, if_pos h, hw]
    change (if 0 ≤ a - 1 then (if a - 1 < (ow.length : Int) then some (rdOf ByteArray.empty ow (a - 1)) else none) else none) = _
    rw [if_pos (by omega), if_pos (by omega)]
    rfl
  · rw [decide_eq_false h, if_neg h]
    rfl
theorem tab_of_laid {W : World} (h : laidMetH Tryd.prog [("math/bits.deBruijn32tab", Rows.laid_math_bits_deBruijn32tab), ("math/bits.deBruijn64tab", Rows.laid_math_bits_deBruijn64tab), ("internal/strconv.uint64pow10", Rows.laid_internal_strconv_uint64pow10), ("unicode.White_Space", Rows.laid_unicode_White_Space), ("strings.asciiSpace", Rows.laid_strings_asciiSpace)] W) : Lib.TabIs Tryd.prog W "strings.asciiSpace" .u8 Lib.asciiSpaceTab := by
  rw [MakeChecks.laidMetH_plain _ _ _ (by kernel_rfl)] at h
  have h2 := h.tail.tail.tail.tail
  rw [show (Rows.laid_strings_asciiSpace : DataW Unit) = Lib.tabData .u8 Lib.asciiSpaceTab from by kernel_rfl] at h2
  exact Lib.tabIs_of_head (g := 0) (t := 84) (e := 5) (n := 256) (by kernel_rfl) (by kernel_rfl) (by kernel_rfl) (by kernel_rfl) (by kernel_rfl) (by kernel_rfl) h2
theorem pow_of_laid {W : World} (h : laidMetH Tryd.prog [("math/bits.deBruijn32tab", Rows.laid_math_bits_deBruijn32tab), ("math/bits.deBruijn64tab", Rows.laid_math_bits_deBruijn64tab), ("internal/strconv.uint64pow10", Rows.laid_internal_strconv_uint64pow10), ("unicode.White_Space", Rows.laid_unicode_White_Space), ("strings.asciiSpace", Rows.laid_strings_asciiSpace)] W) : Lib.TabIs Tryd.prog W "internal/strconv.uint64pow10" .u64 Lib.pow10Tab := by
  rw [MakeChecks.laidMetH_plain _ _ _ (by kernel_rfl)] at h
  have h2 := h.tail.tail
  rw [show (Rows.laid_internal_strconv_uint64pow10 : DataW Unit) = Lib.tabData .u64 Lib.pow10Tab from by kernel_rfl] at h2
  exact Lib.tabIs_of_head (g := 2) (t := 118) (e := 109) (n := 20) (by kernel_rfl) (by kernel_rfl) (by kernel_rfl) (by kernel_rfl) (by kernel_rfl) (by kernel_rfl) h2
theorem decDigits_len (u : Nat) (h : u < 18446744073709551616) : (Lib.decDigits u).length ≤ 20 := by rw [Lib.decDigits_length]; exact Lib.nDigits_le20 u h
theorem str1 (v : Nat) (h : v < 10) : strOfNums [(wrap64 (48 + (v : Int))) % 256] = ⟨#[UInt8.ofNat (48 + v)]⟩ := by
  have hw : wrap64 (48 + (v : Int)) = ((48 + v : Nat) : Int) := by unfold wrap64; omega
  rw [hw]
  unfold strOfNums
  have e : (((48 + v : Nat) : Int) % 256).toNat = 48 + v := by omega
  simp only [List.map_cons, List.map_nil, e]
theorem digits_nat : ∀ (k u : Nat), u < 10 ^ k → u ≤ 4611686018427387904 → 1 ≤ k → spec_l00Digits.f k (u : Int) = some ⟨(Lib.decDigits u).toArray⟩ := by
  intro k
  induction k with
  | zero => intro u _ _ h; omega
  | succ k ih =>
    intro u hu hb _
    have n1 : ¬ (u : Int) = -9223372036854775808 := by omega
    have n2 : ¬ (u : Int) < 0 := by omega
    simp only [spec_l00Digits.f, if_neg n1, if_neg n2]
    by_cases h : u < 10
    · rw [if_pos (by omega), str1 u h, Lib.decDigits_one h]
    · have hk : 1 ≤ k := by
        rcases Nat.eq_zero_or_pos k with h0 | h0
        · subst h0; simp at hu; omega
        · exact h0
      have hu2 : u / 10 < 10 ^ k := by
        rw [Nat.pow_succ] at hu
        omega
      have ht : Int.tdiv (u : Int) 10 = ((u / 10 : Nat) : Int) := by rw [Int.tdiv_eq_ediv_of_nonneg (by omega)]; omega
      have hm : Int.tmod (u : Int) 10 = ((u % 10 : Nat) : Int) := by rw [Int.tmod_eq_emod_of_nonneg (by omega)]; omega
      have hw : wrap64 (((u / 10 : Nat) : Int)) = ((u / 10 : Nat) : Int) := by unfold wrap64; omega
      have hs : Lib.decDigits u = Lib.decDigits (u / 10) ++ [UInt8.ofNat (48 + u % 10)] := by rw [Lib.decDigits, dif_neg h]
      have hl := decDigits_len (u / 10) (by omega)
      rw [if_neg (by omega), ht, hm, hw, ih (u / 10) hu2 (by omega) hk]
      simp only [Option.bind_some]
      rw [str1 (u % 10) (by omega), if_pos (by
        have e1 : (⟨(Lib.decDigits (u / 10)).toArray⟩ : ByteArray).size = (Lib.decDigits (u / 10)).length := by simp [ByteArray.size]
        have e2 : (⟨#[UInt8.ofNat (48 + u % 10)]⟩ : ByteArray).size = 1 := rfl
        omega), hs]
      congr 1
      try (apply ByteArray.ext; simp)
theorem digits_int (n : Int) (h0 : -4611686018427387904 ≤ n) (h1 : n ≤ 4611686018427387904) (k : Nat) (hk : 25 ≤ k) : spec_l00Digits.f k n = some ⟨(Lib.itoa n).toArray⟩ := by
  by_cases h : n < 0
  · obtain ⟨k, rfl⟩ : ∃ m, k = m + 1 := ⟨k - 1, by omega⟩
    obtain ⟨u, rfl⟩ : ∃ u : Nat, n = -(u : Int) := ⟨n.natAbs, by omega⟩
    have n1 : ¬ -(u : Int) = -9223372036854775808 := by omega
    have hw : wrap64 (-(-(u : Int))) = (u : Int) := by unfold wrap64; omega
    have hp : u < 10 ^ k := Nat.lt_of_lt_of_le (show u < 10 ^ 20 by omega) (Nat.pow_le_pow_right (by omega) (by omega))
    have hl := decDigits_len u (by omega)
    simp only [spec_l00Digits.f, if_neg n1, if_pos h, hw]
    rw [digits_nat k u hp (by omega) (by omega)]
    simp only [Option.bind_some]
    rw [if_pos (by
      have e1 : (⟨(Lib.decDigits u).toArray⟩ : ByteArray).size = (Lib.decDigits u).length := by simp [ByteArray.size]
      omega), Lib.itoa_neg u (by omega)]
    congr 1
    try (apply ByteArray.ext; simp)
  · obtain ⟨u, rfl⟩ : ∃ u : Nat, n = (u : Int) := ⟨n.toNat, by omega⟩
    have hp : u < 10 ^ k := Nat.lt_of_lt_of_le (show u < 10 ^ 20 by omega) (Nat.pow_le_pow_right (by omega) (by omega))
    rw [digits_nat k u hp (by omega) (by omega), Lib.itoa_nonneg]
theorem itoa_size (n : Int) (h0 : -9223372036854775808 ≤ n) (h1 : n ≤ 9223372036854775807) : (⟨(Lib.itoa n).toArray⟩ : ByteArray).size ≤ 21 := by
  have := Lib.itoa_length_le n h0 h1
  simpa [ByteArray.size] using this
theorem decimal_calls (n : Int) (h0 : -9223372036854775808 ≤ n) (h1 : n ≤ 9223372036854775807) (s : ByteArray) (hs : s = ⟨(Lib.itoa n).toArray⟩) (w : World) (hT : Lib.TabIs Tryd.prog w "internal/strconv.uint64pow10" .u64 Lib.pow10Tab) :
    Calls Tryd.prog 54 #[.int .i64 n] w fun e w' => e = .returned (.string s) ∧ Below w.heap.size w w' := by
  have cI := Tryd.strconv_Itoa n h0 h1 w hT
  rw [← hs] at cI
  clear hs hT
  go_enter Tryd.func54, Tryd.ntmps54
  go_wp2_with (first | (go_at_call 65; refine cI.mono ?_; rintro e w1 ⟨rfl, k, os, hw⟩; have HB1 := Aside0.mk (show Below w.heap.size w w1 by rw [hw]; exact Lib.below_grow _ w (Nat.le_refl _) k os); clear hw))
  go_ret
  exact ⟨rfl, HB1.out⟩
theorem within_eq (a lo hi : Int) : impl_within.f a lo hi = some (decide (lo ≤ a ∧ a ≤ hi)) := by
  unfold impl_within.f
  by_cases h : a ≥ lo
  · have h' : lo ≤ a := h
    simp [h, h']
  · have h' : ¬ lo ≤ a := h
    simp [h, h']
theorem l01In_eq (a lo hi : Int) : spec_l01In.f a lo hi = some (decide (lo ≤ a ∧ a ≤ hi)) := by
  unfold spec_l01In.f
  by_cases h : a ≥ lo
  · have h' : lo ≤ a := h
    simp [h, h']
  · have h' : ¬ lo ≤ a := h
    simp [h, h']
theorem has_j2 (k : Nat) (a : Int) (b : Bool) : spec_l02Has.j2 k a b = impl_rangeOf.j2 k a b := by
  cases k <;> simp only [spec_l02Has.j2, impl_rangeOf.j2]
theorem has_j1 (k : Nat) (a : Int) (b : Bool) : spec_l02Has.j1 k a b = impl_rangeOf.j1 k a b := by
  cases k <;> simp only [spec_l02Has.j1, impl_rangeOf.j1, has_j2]
theorem has_j0 (k : Nat) (a : Int) (b : Bool) : spec_l02Has.j0 k a b = impl_rangeOf.j0 k a b := by
  cases k <;> simp only [spec_l02Has.j0, impl_rangeOf.j0, has_j1]
theorem has_same (k : Nat) (a : Int) : spec_l02Has.f k a = impl_rangeOf.f k a := by
  unfold spec_l02Has.f impl_rangeOf.f
  simp only [has_j0]
/-- The range of an operation's operand, and whether it has one. -/
def rng (a : Int) : Int × Int × Bool :=
  if a = 1 then (-2147483648, 2147483647, true) else if a = 2 then (0, 1, true) else if a = 3 ∨ a = 4 then (0, 15, true) else if a = 5 ∨ a = 6 ∨ a = 7 ∨ a = 8 then (0, 7, true)
  else if a = 19 ∨ a = 20 then (0, 7, true) else if a = 24 then (1, 20, true) else if a = 26 then (0, 5, true) else (0, 0, false)
theorem range_eq (k : Nat) (hk : 3 ≤ k) (a : Int) : impl_rangeOf.f k a = some (rng a) := by
  obtain ⟨k, rfl⟩ : ∃ m, k = m + 3 := ⟨k - 3, by omega⟩
  unfold impl_rangeOf.f rng
  simp only [impl_rangeOf.j0, impl_rangeOf.j1, impl_rangeOf.j2]
  by_cases h1 : a = 1
  · subst h1; rfl
  by_cases h2 : a = 2
  · subst h2; rfl
  by_cases h3 : a = 3
  · subst h3; rfl
  by_cases h4 : a = 4
  · subst h4; rfl
  by_cases h5 : a = 5
  · subst h5; rfl
  by_cases h6 : a = 6
  · subst h6; rfl
  by_cases h7 : a = 7
  · subst h7; rfl
  by_cases h8 : a = 8
  · subst h8; rfl
  by_cases h19 : a = 19
  · subst h19; rfl
  by_cases h20 : a = 20
  · subst h20; rfl
  by_cases h24 : a = 24
  · subst h24; rfl
  by_cases h26 : a = 26
  · subst h26; rfl
  simp [h1, h2, h3, h4, h5, h6, h7, h8, h19, h20, h24, h26]
def instrb (op a : Int) : Bool := decide ((1 ≤ op ∧ op ≤ 26) ∧ ((rng op).1 ≤ a ∧ a ≤ (rng op).2.1))
theorem isOp_eq (a : Int) : impl_isOp.f a = some (decide (1 ≤ a ∧ a ≤ 26)) := by
  unfold impl_isOp.f; rw [within_eq]; rfl
theorem l02Op_eq (a : Int) : spec_l02Op.f a = some (decide (1 ≤ a ∧ a ≤ 26)) := by
  unfold spec_l02Op.f; rw [l01In_eq]; rfl
theorem spec_instr (k : Nat) (hk : 3 ≤ k) (op a : Int) : spec_l02OK.f k op a = some (instrb op a) := by
  unfold spec_l02OK.f instrb
  simp only [l02Op_eq, l01In_eq, has_same, range_eq k hk, Option.bind_some]
  by_cases h : 1 ≤ op ∧ op ≤ 26 <;> simp [h]
theorem impl_instr (k : Nat) (hk : 3 ≤ k) (op a : Int) : impl_InstrOK.f k op a = some (instrb op a) := by
  unfold impl_InstrOK.f instrb
  simp only [isOp_eq, within_eq, range_eq k hk, Option.bind_some]
  by_cases h : 1 ≤ op ∧ op ≤ 26 <;> simp [h]
/-- The text of an instruction. -/
def itx (op : Int) (s : ByteArray) : ByteArray := if (rng op).2.2 = true then owAt op ++ (⟨#[32]⟩ ++ s) else owAt op
theorem owAt_size (a : Int) : (owAt a).size ≤ 10 := by
  unfold owAt
  split
  · rename_i h
    have hall : (ow.all fun x => decide (x.size ≤ 10)) = true := by decide +kernel
    rw [List.getD_eq_getElem?_getD]
    cases hx : ow[(a - 1).toNat]? with
    | none => show ByteArray.empty.size ≤ 10; decide
    | some x => exact of_decide_eq_true (List.all_eq_true.1 hall x (List.mem_of_getElem? hx))
  · simp [ByteArray.size]
theorem hasOp_f (op : Int) : impl_hasOperand.f 3 op = some (rng op).2.2 := by
  unfold impl_hasOperand.f
  rw [range_eq 3 (by omega)]
  rfl
set_option maxHeartbeats 4000000 in
theorem instrText_calls (op a : Int) (ha0 : -9223372036854775808 ≤ a) (ha1 : a ≤ 9223372036854775807) (s : ByteArray) (hs : s = ⟨(Lib.itoa a).toArray⟩) (w : World) (hT : Lib.TabIs Tryd.prog w "strings.asciiSpace" .u8 Lib.asciiSpaceTab) (hP : Lib.TabIs Tryd.prog w "internal/strconv.uint64pow10" .u64 Lib.pow10Tab) :
    Calls Tryd.prog 50 #[.agg #[.int .i64 op, .int .i64 a]] w fun e w' => e = .returned (.string (itx op s)) ∧ Below w.heap.size w w' := by
  have hz : s.size ≤ 21 := by rw [hs]; exact itoa_size a ha0 ha1
  have cD := fun w hP => decimal_calls a ha0 ha1 s hs w hP
  have cN := fun w hT => OpName_calls op w hT
  have hx := owAt_size op
  unfold itx
  obtain ⟨x, ex⟩ : ∃ x, x = owAt op := ⟨_, rfl⟩
  rw [← ex] at hx ⊢
  simp only [← ex] at cN
  have HT := Aside0.mk (tab_below hT ((Below.refl _ w).alloc (Nat.le_refl _) (.cells #[.int .i64 op, .int .i64 a] 37)))
  have HP := Aside0.mk (tab_below hP ((Below.refl _ w).alloc (Nat.le_refl _) (.cells #[.int .i64 op, .int .i64 a] 37)))
  have HB0 := Aside0.mk ((Below.refl w.heap.size w).alloc (Nat.le_refl _) (.cells #[.int .i64 op, .int .i64 a] 37))
  have s1 : (9223372036854775807 < 1 + s.size) = False := eq_false (by omega)
  have s2 : (9223372036854775807 < x.size + (1 + s.size)) = False := eq_false (by omega)
  cases hb : (rng op).2.2
  · have cH := fun w => impl_hasOperand.calls 3 op false w (by rw [hasOp_f, hb])
    clear hs hT hP ex hx hz hb ha0 ha1
    go_enter Tryd.func50, Tryd.ntmps50
    go_wp2_with (first | (go_at_call 14; refine (cN _ HT.out).mono ?_; rintro e w1 ⟨rfl, hb⟩; have hcell := bcell0 hb; have HB1 := Aside0.mk (below_then HB0.out HB0.out.size hb); clear hb) | (go_at_call 64; refine (cH _).mono ?_; rintro e w2 ⟨rfl, hd⟩; have HB2 := Aside0.mk (below_then HB1.out HB1.out.size hd.below); clear hd))
    go_ret
    exact ⟨rfl, HB2.out⟩
  · have cH := fun w => impl_hasOperand.calls 3 op true w (by rw [hasOp_f, hb])
    clear hs hT hP ex hx hz hb ha0 ha1
    go_enter Tryd.func50, Tryd.ntmps50
    go_wp2_with (first | (go_at_call 14; refine (cN _ HT.out).mono ?_; rintro e w1 ⟨rfl, hb⟩; have hcell := bcell0 hb; have HB1 := Aside0.mk (below_then HB0.out HB0.out.size hb); have HP1 := Aside0.mk (tab_below HP.out hb); have hz1 : w.heap.size < w1.heap.size := (by have := hb.size; simp at this; omega); clear hb) | (go_at_call 64; refine (cH _).mono ?_; rintro e w2 ⟨rfl, hd⟩; have hcell2 := bcell0 hd.below; have HB2 := Aside0.mk (below_then HB1.out HB1.out.size hd.below); have HP2 := Aside0.mk (tab_below HP1.out hd.below); clear hd) | (go_at_call 54; refine (cD _ HP2.out).mono ?_; rintro e w3 ⟨rfl, hb⟩; have HB3 := Aside0.mk (below_then HB2.out HB2.out.size hb); clear hb))
    go_ret
    exact ⟨rfl, HB3.out⟩
theorem instrOK_f (op a : Int) (h : instrb op a = true) : -9223372036854775808 ≤ a ∧ a ≤ 9223372036854775807 ∧ -4611686018427387904 ≤ a ∧ a ≤ 4611686018427387904 := by
  unfold instrb at h
  have h2 := of_decide_eq_true h
  have hr : -2147483648 ≤ (rng op).1 ∧ (rng op).2.1 ≤ 2147483647 := by
    unfold rng
    repeat' split
    all_goals decide
  omega
set_option maxHeartbeats 4000000 in
theorem InstrText_calls (op a : Int) (s : ByteArray) (hs : s = ⟨(Lib.itoa a).toArray⟩) (w : World) (hT : Lib.TabIs Tryd.prog w "strings.asciiSpace" .u8 Lib.asciiSpaceTab) (hP : Lib.TabIs Tryd.prog w "internal/strconv.uint64pow10" .u64 Lib.pow10Tab) :
    Calls Tryd.prog 23 #[.agg #[.int .i64 op, .int .i64 a]] w fun e w' => e = .returned (.tuple #[.string (if instrb op a = true then itx op s else ⟨#[]⟩), .int .i64 (if instrb op a = true then 0 else 1)]) ∧ Below w.heap.size w w' := by
  have HB0 := Aside0.mk ((Below.refl w.heap.size w).alloc (Nat.le_refl _) (.cells #[.int .i64 op, .int .i64 a] 37))
  have HT := Aside0.mk (tab_below hT ((Below.refl _ w).alloc (Nat.le_refl _) (.cells #[.int .i64 op, .int .i64 a] 37)))
  have HP := Aside0.mk (tab_below hP ((Below.refl _ w).alloc (Nat.le_refl _) (.cells #[.int .i64 op, .int .i64 a] 37)))
  cases hb : instrb op a
  · have cK := fun w => impl_InstrOK.calls 3 op a false w (by rw [impl_instr 3 (by omega), hb])
    simp only [Bool.false_eq_true, if_false]
    clear hs hT hP hb
    go_enter Tryd.func23, Tryd.ntmps23
    go_wp2_with (first | (go_at_call 49; refine (cK _).mono ?_; rintro e w1 ⟨rfl, hb⟩; have HB1 := Aside0.mk (below_then HB0.out HB0.out.size hb); clear hb))
    go_ret2
    exact ⟨rfl, HB1.out⟩
  · have cK := fun w => impl_InstrOK.calls 3 op a true w (by rw [impl_instr 3 (by omega), hb])
    obtain ⟨b0, b1, _, _⟩ := instrOK_f op a hb
    have cT := fun w hT hP => instrText_calls op a b0 b1 s hs w hT hP
    simp only [if_true]
    generalize itx op s = r at cT ⊢
    clear hs hT hP hb b0 b1
    go_enter Tryd.func23, Tryd.ntmps23
    go_wp2_with (first | (go_at_call 49; refine (cK _).mono ?_; rintro e w1 ⟨rfl, hb⟩; have hcell := bcell0 hb; have HB1 := Aside0.mk (below_then HB0.out HB0.out.size hb); have HP1 := Aside0.mk (tab_below HP.out hb); have HT1 := Aside0.mk (tab_below HT.out hb); clear hb) | (go_at_call 50; refine (cT _ HT1.out HP1.out).mono ?_; rintro e w2 ⟨rfl, hb⟩; have HB2 := Aside0.mk (below_then HB1.out HB1.out.size hb); clear hb))
    go_ret2
    exact ⟨rfl, HB2.out⟩
/-- What the reference tells. -/
theorem specText (op a : Int) (s : ByteArray) (hs : s = ⟨(Lib.itoa a).toArray⟩) : spec_InstrText.f 40 op a = some (if instrb op a = true then itx op s else ⟨#[]⟩, if instrb op a = true then 0 else 1) := by
  unfold spec_InstrText.f
  rw [spec_instr 40 (by omega)]
  simp only [Option.bind_some]
  cases hb : instrb op a
  · rfl
  · obtain ⟨b0, b1, b2, b3⟩ := instrOK_f op a hb
    have hz : s.size ≤ 21 := by rw [hs]; exact itoa_size a b0 b1
    have hx := owAt_size op
    simp only [if_true]
    unfold spec_l02Text.f itx
    rw [has_same, range_eq 40 (by omega), specOpName]
    simp only [Option.bind_some]
    cases hr : (rng op).2.2
    · rfl
    · simp only [if_true]
      rw [if_pos (by omega), digits_int a b2 b3 40 (by omega), ← hs]
      simp only [Option.bind_some]
      rw [if_pos (by rw [ByteArray.size_append]; have : (⟨#[32]⟩ : ByteArray).size = 1 := rfl; omega), ByteArray.append_assoc]
      rfl
set_option maxHeartbeats 4000000 in
theorem walk (op a : Int) (w : World) (hT : Lib.TabIs Tryd.prog w "strings.asciiSpace" .u8 Lib.asciiSpaceTab) (hP : Lib.TabIs Tryd.prog w "internal/strconv.uint64pow10" .u64 Lib.pow10Tab) :
    Calls Tryd.prog 6 #[.agg #[.int .i64 op, .int .i64 a]] w fun e w' => e = .returned (.bool true) ∧ Below w.heap.size w w' := by
  have cI := fun w hT hP => InstrText_calls op a _ rfl w hT hP
  have cS := fun w => spec_InstrText.calls 40 op a _ _ w (specText op a _ rfl)
  have cO := fun w => laws_toInstr.calls op a op a w rfl
  generalize (if instrb op a = true then itx op ⟨(Lib.itoa a).toArray⟩ else ⟨#[]⟩) = r at cI cS
  generalize (if instrb op a = true then (0 : Int) else 1) = c at cI cS
  have HB0 := Aside0.mk ((Below.refl w.heap.size w).alloc (Nat.le_refl _) (.cells #[.int .i64 op, .int .i64 a] 47))
  have HT := Aside0.mk (tab_below hT ((Below.refl _ w).alloc (Nat.le_refl _) (.cells #[.int .i64 op, .int .i64 a] 47)))
  have HP := Aside0.mk (tab_below hP ((Below.refl _ w).alloc (Nat.le_refl _) (.cells #[.int .i64 op, .int .i64 a] 47)))
  clear hT hP
  go_enter Tryd.func6, Tryd.ntmps6
  go_upto_region 2 with (first | (go_at_call 22; refine (cO _).mono ?_; rintro e w1 ⟨rfl, hb⟩; have hcell := bcell0 hb; have HB1 := Aside0.mk (below_then HB0.out HB0.out.size hb); have HP1 := Aside0.mk (tab_below HP.out hb); have HT1 := Aside0.mk (tab_below HT.out hb); have hz1 : w.heap.size < w1.heap.size := (by have := hb.size; simp at this; omega); clear hb) | (go_at_call 21; refine (cS _).mono ?_; rintro e w2 ⟨rfl, hb⟩; have hcell2 := bcell0 hb; have HB2 := Aside0.mk (below_then HB1.out HB1.out.size hb); have HP2 := Aside0.mk (tab_below HP1.out hb); have HT2 := Aside0.mk (tab_below HT1.out hb); have hz2 : w.heap.size < w2.heap.size := (by have := hb.size; omega); clear hb))
  go_wp2_with (first | (go_at_call 22; refine (cO _).mono ?_; rintro e w3 ⟨rfl, hb⟩; have HB3 := Aside0.mk (below_then HB2.out HB2.out.size hb); have HP3 := Aside0.mk (tab_below HP2.out hb); have HT3 := Aside0.mk (tab_below HT2.out hb); clear hb) | (go_at_call 23; refine (cI _ HT3.out HP3.out).mono ?_; rintro e w4 ⟨rfl, hb⟩; have HB4 := Aside0.mk (below_then HB3.out HB3.out.size hb); clear hb))
  go_ret
  exact ⟨rfl, HB4.out⟩
theorem two_cells {cs : List Value} {a0 a1 : Int} (hl : cs.length = 2) (e0 : (cs.drop 0).take 1 = [.int .i64 a0]) (e1 : (cs.drop 1).take 1 = [.int .i64 a1]) : cs = [.int .i64 a0, .int .i64 a1] := by
  match cs, hl with
  | [x, y], _ => simp at e0 e1; rw [e0, e1]
theorem own : ownKnob Tryd.prog.godebug = none := by kernel_rfl
theorem laidOut : laidOutB Tryd.prog = true := by kernel_rfl
theorem door_met (os : Os) (args : Array Value) : laidMetH Tryd.prog [("math/bits.deBruijn32tab", Rows.laid_math_bits_deBruijn32tab), ("math/bits.deBruijn64tab", Rows.laid_math_bits_deBruijn64tab), ("internal/strconv.uint64pow10", Rows.laid_internal_strconv_uint64pow10), ("unicode.White_Space", Rows.laid_unicode_White_Space), ("strings.asciiSpace", Rows.laid_strings_asciiSpace)] ((World.doorLaid Tryd.prog 48 os).forCall (fun _ _ => 0) ⟨#[], args, []⟩).memory :=
  laidMetH_of_parts3 (fuel := 8) (laidMet_of_run' 8 (by kernel_rfl) (by kernel_rfl)) (by kernel_rfl) (by kernel_rfl)
set_option maxRecDepth 100000 in
theorem lifted (os : Os) (started : os.Started) (H : Type) (enc : TypeId × Value → H) :
    ReturnsInHanded {} Tryd.checked os 6 .any (fun w args => (Rows.fnExactInstrTextSpec.pre enc Tryd.prog Tryd.f6 [] false w args ∧ laidMetH Tryd.prog [("math/bits.deBruijn32tab", Rows.laid_math_bits_deBruijn32tab), ("math/bits.deBruijn64tab", Rows.laid_math_bits_deBruijn64tab), ("internal/strconv.uint64pow10", Rows.laid_internal_strconv_uint64pow10), ("unicode.White_Space", Rows.laid_unicode_White_Space), ("strings.asciiSpace", Rows.laid_strings_asciiSpace)] w) ∧ sizedMet enc Tryd.prog Tryd.f6 (OpenSpec.ofChange Rows.fnExactInstrTextSpec) false w args)
      (Rows.fnExactInstrTextSpec.post enc Tryd.prog Tryd.f6 false true false false) := by
  refine returnsInHanded_of_change_and (C := Tryd.checked) (X := fun w _ => laidMetH Tryd.prog [("math/bits.deBruijn32tab", Rows.laid_math_bits_deBruijn32tab), ("math/bits.deBruijn64tab", Rows.laid_math_bits_deBruijn64tab), ("internal/strconv.uint64pow10", Rows.laid_internal_strconv_uint64pow10), ("unicode.White_Space", Rows.laid_unicode_White_Space), ("strings.asciiSpace", Rows.laid_strings_asciiSpace)] w) (fun _ _ _ hh h => h.of_heap hh) own started (by kernel_rfl) Tryd.func6
    (ChangeSpec.witness_shaped (enc := enc) (C := Tryd.checked) (os := os) (X := fun w _ => laidMetH Tryd.prog [("math/bits.deBruijn32tab", Rows.laid_math_bits_deBruijn32tab), ("math/bits.deBruijn64tab", Rows.laid_math_bits_deBruijn64tab), ("internal/strconv.uint64pow10", Rows.laid_internal_strconv_uint64pow10), ("unicode.White_Space", Rows.laid_unicode_White_Space), ("strings.asciiSpace", Rows.laid_strings_asciiSpace)] w) false (World.doorLaid Tryd.prog 48 os) #[.agg #[.int .i64 0, .int .i64 0]] 8 rfl (World.shaped_of_RefB (by kernel_rfl) (by kernel_rfl)) (by kernel_rfl) (by kernel_rfl) (by kernel_rfl) (door_met os _)) ?_
  intro W base args ds gs before hval0 hW _ _ hL _
  have hval : ∀ (j : Nat) t v, Tryd.f6.params[j]? = some t → args[j]? = some v → Value.okWide Tryd.prog W .any base t v := hval0
  have hW' := hW
  obtain ⟨p, q, hA0, hV, rfl, hfz, hnd⟩ := hW
  have hA : DataW.TrodAll enc Tryd.prog W 0 (fun _ => true) true Tryd.f6.params.toList args.toList ds p := hA0
  rw [Tryd.params6] at hA hval
  obtain ⟨v0, vs0, d0, ds0, p0, q0, hargs, rfl, rfl, h0, r0⟩ := trodAll_cons hA
  obtain ⟨rfl, rfl, rfl⟩ := trodAll_nil r0
  obtain rfl : args = #[v0] := by cases args; simp_all
  obtain ⟨rfl, rfl⟩ := trodVars_none hV
  have k0_ := h0
  have lt0 : ∀ x ∈ p0, x.block < W.heap.size := by obtain ⟨m, hm⟩ := k0_; exact DataW.trod_lt m _ _ _ hm
  obtain ⟨cs0, rfl, hsz0⟩ := okWide_struct Tryd.underlying47 (hval 0 47 v0 rfl rfl)
  obtain ⟨op, a, rfl⟩ : ∃ op a : Int, cs0 = #[.int .i64 op, .int .i64 a] := by
    obtain ⟨fuel, hf⟩ := h0
    obtain ⟨xs, n, _, _, hlen, hxl, hg⟩ := DataW.trod_struct Tryd.underlying47 hf
    have hlen2 : cs0.toList.length = 2 := hlen.trans (show Tryd.prog.cellsOf 47 = 2 from by kernel_rfl)
    have g0 : DataW.trod enc Tryd.prog W 0 (fun _ => true) true n 3 ((cs0.toList.drop 0).take (Tryd.prog.cellsOf 3)) = xs[0]? := hg 0 _ rfl
    rw [show Tryd.prog.cellsOf 3 = 1 from by kernel_rfl] at g0
    have g1 : DataW.trod enc Tryd.prog W 0 (fun _ => true) true n 3 ((cs0.toList.drop 1).take (Tryd.prog.cellsOf 3)) = xs[1]? := hg 1 _ rfl
    rw [show Tryd.prog.cellsOf 3 = 1 from by kernel_rfl] at g1
    obtain ⟨a0, e0, _⟩ := DataW.trod_int Tryd.underlying3 (g0.trans (List.getElem?_eq_getElem (by rw [hxl]; decide)))
    obtain ⟨a1, e1, _⟩ := DataW.trod_int Tryd.underlying3 (g1.trans (List.getElem?_eq_getElem (by rw [hxl]; decide)))
    refine ⟨a0, a1, Array.toList_inj.1 ?_⟩
    exact two_cells hlen2 e0 e1
  have hT := tab_of_laid hL
  have hP := pow_of_laid hL
  clear hA0 hval0 hL hsz0
  refine (walk op a W hT hP).mono fun e W' ⟨he, bel⟩ => ?_
  subst he
  exact ⟨_, rfl, _, _, _, [], _, [], hW', trodAll_mk1 (shut_bool Tryd.underlying4 _), (trodAll_cons_mk (Below.trod laidOut (by kernel_rfl) (of_decide_eq_true (by kernel_rfl)) k0_ bel lt0) trodAll_mk0), rfl, bel.frame _, fun h => by cases h⟩
theorem said : Rows.FnExactInstrTextSaid :=
  OpenClaim.holds_of_wide 6 Tryd.f6 rfl rfl rfl rfl rfl rfl rfl ⟨rfl, rfl, rfl, rfl, rfl⟩ rfl rfl rfl rfl rfl (by kernel_rfl) Tryd.func6 (by kernel_rfl)
    (of_decide_eq_true (by kernel_rfl)) (by unfold Func.isWrapper; first | (rw [if_pos (by decide +kernel)]; kernel_rfl) | (rw [if_neg (by decide +kernel)]; exact ⟨rfl, rfl⟩))
    (fun os started H enc _ => lifted os started H enc)
theorem card : Rows.FnExactInstrTextCardSaid :=
  Claim7.holds_tied_plain_at .later [] [.data, .data, .data, .listed, .data] true (true, "47d084c603a420e989eb15adc428b4ad82a1d4bd393e058c2c636265c8713f70") false
    said (fun _ h => by cases h) (by kernel_rfl) (fun _ h => by cases h) fnExactInstrText_row_tie rfl ⟨rfl, rfl⟩ (by kernel_rfl) rfl
    (fun f fn hf hfn => by
      obtain rfl : f = 6 := Option.some.inj ((show Tryd.prog.funcNamed "loop.example/g00684/laws.FnExactInstrText" = some 6 by kernel_rfl).symm.trans hf) |>.symm
      obtain rfl : fn = Tryd.f6 := (Option.some.inj (Tryd.func6.symm.trans hfn)).symm
      exact ⟨by kernel_rfl, fun j t ht => by
        rw [Tryd.params6] at ht
        have hm : t ∈ [47] := by simpa using Array.mem_of_getElem? ht
        have hall : ([47].all fun u => !Tryd.prog.wantsStandIn u) = true := by kernel_rfl
        exact (show Tryd.prog.wantsStandIn t = false by simpa using List.all_eq_true.1 hall t hm)⟩)
    (by kernel_rfl)
#print axioms card
end Go.Proofs.YtjgdfbcjlebniaaDoor.DInstrText
namespace Go.Proofs.YtjgdfbcjlebniaaDoor
/-- The card, under a short name, for the claim. -/
theorem fnExactInstrTextCard_holds : Rows.FnExactInstrTextCardSaid := DInstrText.card
end Go.Proofs.YtjgdfbcjlebniaaDoor
