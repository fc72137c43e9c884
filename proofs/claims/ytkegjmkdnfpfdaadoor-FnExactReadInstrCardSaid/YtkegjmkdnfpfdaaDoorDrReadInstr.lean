/- Proved: the tied card of the law FnExactReadInstr of the given program: for every input the law returns true, the listed package-level variables reading as the program's own initialisers lay them (tied by the given Tie text). Conditions: none beyond the card's own. -/
import Derived.Test.YtkegjmkdnfpfdaaDoorCards
import Derived.Test.YtkegjmkdnfpfdaaDoorTie
import Derived.Test.YtkegjmkdnfpfdaaDoorMFnExactReadInstrx0
import Derived.Test.YtkegjmkdnfpfdaaDoorMFnExactReadInstrx1
import Derived.Test.YtkegjmkdnfpfdaaDoorMFnExactReadInstrx2
import Derived.Test.YtkegjmkdnfpfdaaDoorMFnExactReadInstrx3
import Derived.Test.YtkegjmkdnfpfdaaDoorMFnExactReadInstrx4
import Derived.Test.YtkegjmkdnfpfdaaDoorMFnExactReadInstrx5
import Derived.Test.YtkegjmkdnfpfdaaDoorMFnExactReadInstrx6
import Derived.Shelf.LaysM
import Derived.Shelf.Strings.SplitShaped
import Derived.Lib.LaidTab
import Derived.Lib.SplitLaws
import Derived.Lib.IndexBytes
import Derived.Lib.ItoaNum
import Derived.Lib.ItoaMem
import Derived.Lib.ItoaLen
import Derived.Lib.Atoi
import Derived.Lib.AtoiTie
import Derived.Lib.AtoiAllCases
import Derived.Lib.Strings
import Derived.Lib.OwnBridge
import Derived.Lib.AppendIntMem
import Derived.Shelf.Strconv.Itoa3
import Derived.Shelf.Strings.Prefix
import Derived.Shelf.SlGeneric
import Derived.Shelf.SlicesE.DeleteFunc
import Derived.Shelf.Strconv.AtoiAll
import Derived.Shelf.Strconv.ErrVarAll
import Derived.Ground.SlgfProg
import Derived.Shelf.Vars
import Derived.Lay
import Derived.Stop.LaidErr
import Derived.MakeChecks
import Derived.LaidMore
import Derived.WalkKit
import Derived.ProofKit
import Derived.OpenShut
import Derived.ShutString
import Derived.ChangeOld
import Derived.Below
import Derived.SizedLaws
import Derived.ChangeSame
import Derived.Stop.Joined
import Derived.SevenTiedAt
set_option linter.unusedVariables false
set_option linter.unusedSimpArgs false
namespace Go.Proofs
open Go.Shelf
def Tryd.lays146_ren : Go.Shelf.Ren := ⟨fun | 146 => 23 | 221 => 40 | 268 => 46 | 138 => 47 | 143 => 48 | 195 => 58 | 197 => 59 | 218 => 60 | 219 => 61 | 260 => 67 | 217 => 68 | 225 => 69 | 224 => 70 | 267 => 71 | 266 => 80 | 314 => 81 | n => n, fun | 9 => 9 | 31 => 32 | 3 => 3 | 4 => 4 | 0 => 0 | 105 => 70 | 21 => 21 | 5 => 5 | 46 => 82 | 119 => 60 | 139 => 112 | 138 => 111 | 146 => 113 | 51 => 76 | n => n, fun | 1 => 4 | 3 => 5 | 4 => 6 | n => n⟩
theorem Tryd.lays146 : Go.Proofs.Lays.n146 Tryd.prog Tryd.lays146_ren := {
  mixed := by kernel_rfl
  f138 := Tryd.func47.trans (congrArg some (by kernel_rfl))
  f143 := Tryd.func48.trans (congrArg some (by kernel_rfl))
  f146 := Tryd.func23.trans (congrArg some (by kernel_rfl))
  f195 := Tryd.func58.trans (congrArg some (by kernel_rfl))
  f197 := Tryd.func59.trans (congrArg some (by kernel_rfl))
  f217 := Tryd.func68.trans (congrArg some (by kernel_rfl))
  f218 := Tryd.func60.trans (congrArg some (by kernel_rfl))
  f219 := Tryd.func61.trans (congrArg some (by kernel_rfl))
  f221 := Tryd.func40.trans (congrArg some (by kernel_rfl))
  f224 := Tryd.func70.trans (congrArg some (by kernel_rfl))
  f225 := Tryd.func69.trans (congrArg some (by kernel_rfl))
  f260 := Tryd.func67.trans (congrArg some (by kernel_rfl))
  f266 := Tryd.func80.trans (congrArg some (by kernel_rfl))
  f267 := Tryd.func71.trans (congrArg some (by kernel_rfl))
  f268 := Tryd.func46.trans (congrArg some (by kernel_rfl))
  f314 := Tryd.func81.trans (congrArg some (by kernel_rfl))
  t0 := Tryd.underlying0
  a0 := Tryd.isAgg0
  z0 := Tryd.sizeOf0
  v0 := Tryd.zeroValue0
  t3 := Tryd.underlying3
  a3 := Tryd.isAgg3
  z3 := Tryd.sizeOf3
  v3 := Tryd.zeroValue3
  t4 := Tryd.underlying4
  a4 := Tryd.isAgg4
  z4 := Tryd.sizeOf4
  v4 := Tryd.zeroValue4
  t5 := Tryd.underlying5
  a5 := Tryd.isAgg5
  z5 := Tryd.sizeOf5
  v5 := Tryd.zeroValue5
  t9 := Tryd.underlying9
  a9 := Tryd.isAgg9
  z9 := Tryd.sizeOf9
  v9 := Tryd.zeroValue9
  t21 := Tryd.underlying21
  a21 := Tryd.isAgg21
  z21 := Tryd.sizeOf21
  v21 := Tryd.zeroValue21
  t31 := Tryd.underlying32
  a31 := Tryd.isAgg32
  z31 := Tryd.sizeOf32
  v31 := Tryd.zeroValue32
  t46 := Tryd.underlying82
  a46 := Tryd.isAgg82
  z46 := Tryd.sizeOf82
  v46 := Tryd.zeroValue82
  t51 := Tryd.underlying76
  a51 := Tryd.isAgg76
  z51 := Tryd.sizeOf76
  v51 := Tryd.zeroValue76
  t105 := Tryd.underlying70
  a105 := Tryd.isAgg70
  z105 := Tryd.sizeOf70
  v105 := Tryd.zeroValue70
  t119 := Tryd.underlying60
  a119 := Tryd.isAgg60
  z119 := Tryd.sizeOf60
  t138 := Tryd.underlying111
  a138 := Tryd.isAgg111
  z138 := Tryd.sizeOf111
  v138 := Tryd.zeroValue111
  t139 := Tryd.underlying112
  a139 := Tryd.isAgg112
  z139 := Tryd.sizeOf112
  v139 := Tryd.zeroValue112
  t146 := Tryd.underlying113
  a146 := Tryd.isAgg113
  z146 := Tryd.sizeOf113
  v146 := Tryd.zeroValue113
  g1 := by kernel_rfl
  g3 := by kernel_rfl
  g4 := by kernel_rfl }
open Go.RowKit Go.Lib in
theorem Tryd.strings_Split (s sep : ByteArray) (m : Int) (w : World) (hs : s.size < 4294967281) (hm : w.cell? ⟨4, 0, none⟩ = some (.int .i64 m)) (h1 : 1 ≤ sep.size) :
    Calls Tryd.prog 23 #[.string s, .string sep] w fun e w' =>
      e = .returned (.slice (some ⟨w.heap.size, 0, none⟩) (Lib.countB s sep + 1) (Lib.countB s sep + 1)) ∧ w' = w.alloc (.cells ((Lib.splitB sep 0 (Lib.countB s sep) s).map Value.string).toArray 9) := Any.strings_Split Tryd.lays146 (by kernel_rfl) s sep m w hs hm h1
def Tryd.lays101_ren : Go.Shelf.Ren := ⟨fun | 101 => 36 | 208 => 45 | 206 => 57 | n => n, fun | 9 => 9 | 4 => 4 | 3 => 3 | n => n, fun | n => n⟩
theorem Tryd.lays101 : Go.Proofs.Lays.n101 Tryd.prog Tryd.lays101_ren := {
  mixed := by kernel_rfl
  f101 := Tryd.func36.trans (congrArg some (by kernel_rfl))
  f206 := Tryd.func57.trans (congrArg some (by kernel_rfl))
  f208 := Tryd.func45.trans (congrArg some (by kernel_rfl))
  t3 := Tryd.underlying3
  a3 := Tryd.isAgg3
  z3 := Tryd.sizeOf3
  v3 := Tryd.zeroValue3
  t4 := Tryd.underlying4
  a4 := Tryd.isAgg4
  z4 := Tryd.sizeOf4
  v4 := Tryd.zeroValue4
  t9 := Tryd.underlying9
  a9 := Tryd.isAgg9
  z9 := Tryd.sizeOf9
  v9 := Tryd.zeroValue9 }
open Go.RowKit Go.Lib in
theorem Tryd.strings_TrimPrefix (s p : ByteArray) (w : World) :
    Calls Tryd.prog 36 #[.string s, .string p] w fun e w' => e = .returned (.string ⟨(Lib.trimPrefix s.data.toList p.data.toList).toArray⟩) ∧ w' = w := Any.strings_TrimPrefix Tryd.lays101 s p w
def Tryd.laysM157_ren : Go.Shelf.Ren := ⟨fun | 157 => 41 | 229 => 49 | 199 => 50 | 261 => 62 | 311 => 72 | 312 => 73 | n => n, fun | 9 => 9 | 31 => 32 | 3 => 3 | 5 => 5 | 4 => 4 | 119 => 60 | 0 => 0 | 40 => 62 | 152 => 73 | 21 => 21 | 154 => 75 | 51 => 76 | 141 => 78 | 196 => 92 | 193 => 89 | 198 => 95 | 49 => 93 | 194 => 90 | 201 => 98 | 226 => 115 | 46 => 82 | 227 => 116 | n => n, fun | 0 => 0 | 6 => 1 | n => n⟩
theorem Tryd.laysM157 : Go.Proofs.LaysM.n157 Tryd.prog Tryd.laysM157_ren := {
  mixed := by kernel_rfl
  f157 := Tryd.func41.trans (congrArg some (by kernel_rfl))
  f199 := Tryd.func50.trans (congrArg some (by kernel_rfl))
  f229 := Tryd.func49.trans (congrArg some (by kernel_rfl))
  f261 := Tryd.func62.trans (congrArg some (by kernel_rfl))
  f311 := Tryd.func72.trans (congrArg some (by kernel_rfl))
  f312 := Tryd.func73.trans (congrArg some (by kernel_rfl))
  t0 := Tryd.underlying0
  a0 := Tryd.isAgg0
  z0 := Tryd.sizeOf0
  v0 := Tryd.zeroValue0
  t3 := Tryd.underlying3
  a3 := Tryd.isAgg3
  z3 := Tryd.sizeOf3
  v3 := Tryd.zeroValue3
  t4 := Tryd.underlying4
  a4 := Tryd.isAgg4
  z4 := Tryd.sizeOf4
  v4 := Tryd.zeroValue4
  t5 := Tryd.underlying5
  a5 := Tryd.isAgg5
  z5 := Tryd.sizeOf5
  v5 := Tryd.zeroValue5
  t9 := Tryd.underlying9
  a9 := Tryd.isAgg9
  z9 := Tryd.sizeOf9
  v9 := Tryd.zeroValue9
  t21 := Tryd.underlying21
  a21 := Tryd.isAgg21
  z21 := Tryd.sizeOf21
  v21 := Tryd.zeroValue21
  t31 := Tryd.underlying32
  a31 := Tryd.isAgg32
  z31 := Tryd.sizeOf32
  v31 := Tryd.zeroValue32
  t40 := Tryd.underlying62
  a40 := Tryd.isAgg62
  z40 := Tryd.sizeOf62
  v40 := Tryd.zeroValue62
  t46 := Tryd.underlying82
  a46 := Tryd.isAgg82
  z46 := Tryd.sizeOf82
  v46 := Tryd.zeroValue82
  t49 := Tryd.underlying93
  a49 := Tryd.isAgg93
  z49 := Tryd.sizeOf93
  v49 := Tryd.zeroValue93
  t51 := Tryd.underlying76
  a51 := Tryd.isAgg76
  z51 := Tryd.sizeOf76
  v51 := Tryd.zeroValue76
  t119 := Tryd.underlying60
  a119 := Tryd.isAgg60
  z119 := Tryd.sizeOf60
  t141 := Tryd.underlying78
  a141 := Tryd.isAgg78
  z141 := Tryd.sizeOf78
  v141 := Tryd.zeroValue78
  t152 := Tryd.underlying73
  a152 := Tryd.isAgg73
  z152 := Tryd.sizeOf73
  v152 := Tryd.zeroValue73
  t154 := Tryd.underlying75
  a154 := Tryd.isAgg75
  z154 := Tryd.sizeOf75
  v154 := Tryd.zeroValue75
  t193 := Tryd.underlying89
  a193 := Tryd.isAgg89
  z193 := Tryd.sizeOf89
  v193 := Tryd.zeroValue89
  t194 := Tryd.underlying90
  a194 := Tryd.isAgg90
  z194 := Tryd.sizeOf90
  v194 := Tryd.zeroValue90
  t196 := Tryd.underlying92
  a196 := Tryd.isAgg92
  z196 := Tryd.sizeOf92
  v196 := Tryd.zeroValue92
  t198 := Tryd.underlying95
  a198 := Tryd.isAgg95
  z198 := Tryd.sizeOf95
  v198 := Tryd.zeroValue95
  t201 := Tryd.underlying98
  a201 := Tryd.isAgg98
  z201 := Tryd.sizeOf98
  v201 := Tryd.zeroValue98
  t226 := Tryd.underlying115
  a226 := Tryd.isAgg115
  z226 := Tryd.sizeOf115
  v226 := Tryd.zeroValue115
  t227 := Tryd.underlying116
  a227 := Tryd.isAgg116
  z227 := Tryd.sizeOf116
  v227 := Tryd.zeroValue116
  g0 := by kernel_rfl
  g6 := by kernel_rfl
  i0 := by kernel_rfl
  i3 := by kernel_rfl
  i4 := by kernel_rfl
  i5 := by kernel_rfl
  i9 := by kernel_rfl
  i21 := by kernel_rfl
  i31 := by kernel_rfl
  i40 := by kernel_rfl
  i46 := by kernel_rfl
  i49 := by kernel_rfl
  i51 := by kernel_rfl
  i141 := by kernel_rfl
  i152 := by kernel_rfl
  i154 := by kernel_rfl
  i193 := by kernel_rfl
  i194 := by kernel_rfl
  i196 := by kernel_rfl
  i198 := by kernel_rfl
  i201 := by kernel_rfl
  i226 := by kernel_rfl
  i227 := by kernel_rfl
  m0 := by kernel_rfl
  m6 := by kernel_rfl }
open Go.RowKit Go.Lib in
theorem Tryd.strings_Fields_laid (s : ByteArray) (w : World) (hs : s.size < 4294967281) (hascii : ∀ (j : Nat) b, s.data.toList[j]? = some b → b.toNat < 128) (htab : Lib.TabIs Tryd.prog w "strings.asciiSpace" .u8 Lib.asciiSpaceTab) :
    Calls Tryd.prog 41 #[.string s] w fun e w' =>
      e = .returned (.slice (some ⟨w.heap.size, 0, none⟩) (Lib.fields s.data.toList).length (Lib.fields s.data.toList).length) ∧ w' = w.alloc (.cells ((Lib.fields s.data.toList).map fun l => Value.string ⟨l.toArray⟩).toArray 9) := Any.strings_Fields_laid Tryd.laysM157 s w hs hascii htab
def Tryd.laysM171_ren : Go.Shelf.Ren := ⟨fun | 171 => 44 | 243 => 56 | 246 => 66 | 283 => 76 | 284 => 77 | 285 => 78 | 286 => 79 | 129 => 83 | 317 => 82 | 318 => 84 | 319 => 85 | 320 => 86 | 337 => 87 | 338 => 88 | n => n, fun | 3 => 3 | 9 => 9 | 2 => 2 | 4 => 4 | 171 => 105 | 0 => 0 | 53 => 79 | 37 => 56 | 5 => 5 | 173 => 108 | 212 => 118 | 51 => 76 | 20 => 20 | 213 => 119 | 46 => 82 | 232 => 122 | 233 => 123 | n => n, fun | 17 => 7 | 18 => 8 | 19 => 9 | n => n⟩
theorem Tryd.laysM171 : Go.Proofs.LaysM.n171 Tryd.prog Tryd.laysM171_ren := {
  mixed := by kernel_rfl
  f129 := Tryd.func83.trans (congrArg some (by kernel_rfl))
  f171 := Tryd.func44.trans (congrArg some (by kernel_rfl))
  f243 := Tryd.func56.trans (congrArg some (by kernel_rfl))
  f246 := Tryd.func66.trans (congrArg some (by kernel_rfl))
  f283 := Tryd.func76.trans (congrArg some (by kernel_rfl))
  f284 := Tryd.func77.trans (congrArg some (by kernel_rfl))
  f285 := Tryd.func78.trans (congrArg some (by kernel_rfl))
  f286 := Tryd.func79.trans (congrArg some (by kernel_rfl))
  f317 := Tryd.func82.trans (congrArg some (by kernel_rfl))
  f318 := Tryd.func84.trans (congrArg some (by kernel_rfl))
  f319 := Tryd.func85.trans (congrArg some (by kernel_rfl))
  f320 := Tryd.func86.trans (congrArg some (by kernel_rfl))
  f337 := Tryd.func87.trans (congrArg some (by kernel_rfl))
  f338 := Tryd.func88.trans (congrArg some (by kernel_rfl))
  t0 := Tryd.underlying0
  a0 := Tryd.isAgg0
  z0 := Tryd.sizeOf0
  v0 := Tryd.zeroValue0
  t2 := Tryd.underlying2
  a2 := Tryd.isAgg2
  z2 := Tryd.sizeOf2
  v2 := Tryd.zeroValue2
  t3 := Tryd.underlying3
  a3 := Tryd.isAgg3
  z3 := Tryd.sizeOf3
  v3 := Tryd.zeroValue3
  t4 := Tryd.underlying4
  a4 := Tryd.isAgg4
  z4 := Tryd.sizeOf4
  v4 := Tryd.zeroValue4
  t5 := Tryd.underlying5
  a5 := Tryd.isAgg5
  z5 := Tryd.sizeOf5
  v5 := Tryd.zeroValue5
  t9 := Tryd.underlying9
  a9 := Tryd.isAgg9
  z9 := Tryd.sizeOf9
  v9 := Tryd.zeroValue9
  t20 := Tryd.underlying20
  a20 := Tryd.isAgg20
  z20 := Tryd.sizeOf20
  v20 := Tryd.zeroValue20
  t37 := Tryd.underlying56
  a37 := Tryd.isAgg56
  z37 := Tryd.sizeOf56
  v37 := Tryd.zeroValue56
  t46 := Tryd.underlying82
  a46 := Tryd.isAgg82
  z46 := Tryd.sizeOf82
  v46 := Tryd.zeroValue82
  t51 := Tryd.underlying76
  a51 := Tryd.isAgg76
  z51 := Tryd.sizeOf76
  v51 := Tryd.zeroValue76
  t53 := Tryd.underlying79
  a53 := Tryd.isAgg79
  z53 := Tryd.sizeOf79
  v53 := Tryd.zeroValue79
  t171 := Tryd.underlying105
  a171 := Tryd.isAgg105
  z171 := Tryd.sizeOf105
  v171 := Tryd.zeroValue105
  t173 := Tryd.underlying108
  a173 := Tryd.isAgg108
  z173 := Tryd.sizeOf108
  v173 := Tryd.zeroValue108
  t212 := Tryd.underlying118
  a212 := Tryd.isAgg118
  z212 := Tryd.sizeOf118
  v212 := Tryd.zeroValue118
  t213 := Tryd.underlying119
  a213 := Tryd.isAgg119
  z213 := Tryd.sizeOf119
  t232 := Tryd.underlying122
  a232 := Tryd.isAgg122
  z232 := Tryd.sizeOf122
  v232 := Tryd.zeroValue122
  t233 := Tryd.underlying123
  a233 := Tryd.isAgg123
  z233 := Tryd.sizeOf123
  v233 := Tryd.zeroValue123
  g17 := by kernel_rfl
  g18 := by kernel_rfl
  g19 := by kernel_rfl
  i0 := by kernel_rfl
  i2 := by kernel_rfl
  i3 := by kernel_rfl
  i4 := by kernel_rfl
  i5 := by kernel_rfl
  i9 := by kernel_rfl
  i20 := by kernel_rfl
  i37 := by kernel_rfl
  i46 := by kernel_rfl
  i51 := by kernel_rfl
  i53 := by kernel_rfl
  i171 := by kernel_rfl
  i173 := by kernel_rfl
  i212 := by kernel_rfl
  i232 := by kernel_rfl
  i233 := by kernel_rfl
  m17 := by kernel_rfl
  m18 := by kernel_rfl
  m19 := by kernel_rfl }
open Go.RowKit Go.Sort Go.Lib in
theorem Tryd.strconv_Itoa (n : Int) (h0 : -9223372036854775808 ≤ n) (h1 : n ≤ 9223372036854775807) (w : World) (htab : Lib.TabIs Tryd.prog w "internal/strconv.uint64pow10" .u64 Lib.pow10Tab) :
    Calls Tryd.prog 44 #[.int .i64 n] w fun e w' => e = .returned (.string ⟨(Lib.itoa n).toArray⟩) ∧ ∃ k os, w' = grow (w.drewN k) os := Any.strconv_Itoa Tryd.laysM171 n h0 h1 w htab
def Tryd.lDel_ren : Go.Shelf.Ren := ⟨fun | 10 => 22 | 6 => 39 | n => n, fun | 22 => 32 | 23 => 9 | 25 => 27 | 3 => 3 | 4 => 4 | 0 => 0 | n => n, fun | n => n⟩
theorem Tryd.lDel : Go.Proofs.SlLaysH.n10 Tryd.prog Tryd.lDel_ren := {
  mixed := by kernel_rfl
  f6 := ⟨Tryd.f39.name, by decide, Tryd.func39.trans (congrArg some (by kernel_rfl))⟩
  f10 := ⟨Tryd.f22.name, by decide, Tryd.func22.trans (congrArg some (by kernel_rfl))⟩
  t0 := Tryd.underlying0
  a0 := Tryd.isAgg0
  z0 := Tryd.sizeOf0
  v0 := Tryd.zeroValue0
  t3 := Tryd.underlying3
  a3 := Tryd.isAgg3
  z3 := Tryd.sizeOf3
  v3 := Tryd.zeroValue3
  t4 := Tryd.underlying4
  a4 := Tryd.isAgg4
  z4 := Tryd.sizeOf4
  v4 := Tryd.zeroValue4
  t22 := Tryd.underlying32
  a22 := Tryd.isAgg32
  z22 := Tryd.sizeOf32
  v22 := Tryd.zeroValue32
  a23 := Tryd.isAgg9
  z23 := Tryd.sizeOf9
  t25 := Tryd.underlying27
  a25 := Tryd.isAgg27
  z25 := Tryd.sizeOf27
  v25 := Tryd.zeroValue27 }
def Tryd.layAtoi_ren : Go.Shelf.Ren := ⟨fun | 172 => 34 | 244 => 42 | 245 => 43 | 247 => 51 | 279 => 52 | 280 => 53 | 281 => 54 | 282 => 55 | 287 => 63 | 316 => 64 | 171 => 44 | 205 => 65 | 321 => 74 | 322 => 75 | 243 => 56 | 246 => 66 | 283 => 76 | 284 => 77 | 285 => 78 | 286 => 79 | 129 => 83 | 317 => 82 | 318 => 84 | 319 => 85 | 320 => 86 | 337 => 87 | 338 => 88 | n => n, fun | 9 => 9 | 3 => 3 | 75 => 50 | 76 => 51 | 4 => 4 | 5 => 5 | 167 => 63 | 37 => 56 | 0 => 0 | 85 => 64 | 2 => 2 | 168 => 66 | 53 => 79 | 175 => 80 | 46 => 82 | 210 => 85 | 127 => 101 | 145 => 104 | 143 => 102 | 21 => 21 | 171 => 105 | 173 => 108 | 212 => 118 | 51 => 76 | 20 => 20 | 213 => 119 | 232 => 122 | 233 => 123 | 80 => 124 | n => n, fun | 15 => 2 | 16 => 3 | 17 => 7 | 18 => 8 | 19 => 9 | n => n⟩
theorem Tryd.layAtoi : Go.Proofs.LaysC.n172 Tryd.prog Tryd.layAtoi_ren := {
  mixed := by kernel_rfl
  f129 := Tryd.func83.trans (congrArg some (by kernel_rfl))
  f171 := Tryd.func44.trans (congrArg some (by kernel_rfl))
  f172 := Tryd.func34.trans (congrArg some (by kernel_rfl))
  f205 := Tryd.func65.trans (congrArg some (by kernel_rfl))
  f243 := Tryd.func56.trans (congrArg some (by kernel_rfl))
  f244 := Tryd.func42.trans (congrArg some (by kernel_rfl))
  f245 := Tryd.func43.trans (congrArg some (by kernel_rfl))
  f246 := Tryd.func66.trans (congrArg some (by kernel_rfl))
  f247 := Tryd.func51.trans (congrArg some (by kernel_rfl))
  f279 := Tryd.func52.trans (congrArg some (by kernel_rfl))
  f280 := Tryd.func53.trans (congrArg some (by kernel_rfl))
  f281 := Tryd.func54.trans (congrArg some (by kernel_rfl))
  f282 := Tryd.func55.trans (congrArg some (by kernel_rfl))
  f283 := Tryd.func76.trans (congrArg some (by kernel_rfl))
  f284 := Tryd.func77.trans (congrArg some (by kernel_rfl))
  f285 := Tryd.func78.trans (congrArg some (by kernel_rfl))
  f286 := Tryd.func79.trans (congrArg some (by kernel_rfl))
  f287 := Tryd.func63.trans (congrArg some (by kernel_rfl))
  f316 := Tryd.func64.trans (congrArg some (by kernel_rfl))
  f317 := Tryd.func82.trans (congrArg some (by kernel_rfl))
  f318 := Tryd.func84.trans (congrArg some (by kernel_rfl))
  f319 := Tryd.func85.trans (congrArg some (by kernel_rfl))
  f320 := Tryd.func86.trans (congrArg some (by kernel_rfl))
  f321 := Tryd.func74.trans (congrArg some (by kernel_rfl))
  f322 := Tryd.func75.trans (congrArg some (by kernel_rfl))
  f337 := Tryd.func87.trans (congrArg some (by kernel_rfl))
  f338 := Tryd.func88.trans (congrArg some (by kernel_rfl))
  t0 := Tryd.underlying0
  a0 := Tryd.isAgg0
  z0 := Tryd.sizeOf0
  v0 := Tryd.zeroValue0
  t2 := Tryd.underlying2
  a2 := Tryd.isAgg2
  z2 := Tryd.sizeOf2
  v2 := Tryd.zeroValue2
  t3 := Tryd.underlying3
  a3 := Tryd.isAgg3
  z3 := Tryd.sizeOf3
  v3 := Tryd.zeroValue3
  t4 := Tryd.underlying4
  a4 := Tryd.isAgg4
  z4 := Tryd.sizeOf4
  v4 := Tryd.zeroValue4
  t5 := Tryd.underlying5
  a5 := Tryd.isAgg5
  z5 := Tryd.sizeOf5
  v5 := Tryd.zeroValue5
  t9 := Tryd.underlying9
  a9 := Tryd.isAgg9
  z9 := Tryd.sizeOf9
  v9 := Tryd.zeroValue9
  t20 := Tryd.underlying20
  a20 := Tryd.isAgg20
  z20 := Tryd.sizeOf20
  v20 := Tryd.zeroValue20
  t21 := Tryd.underlying21
  a21 := Tryd.isAgg21
  z21 := Tryd.sizeOf21
  v21 := Tryd.zeroValue21
  t37 := Tryd.underlying56
  a37 := Tryd.isAgg56
  z37 := Tryd.sizeOf56
  v37 := Tryd.zeroValue56
  t46 := Tryd.underlying82
  a46 := Tryd.isAgg82
  z46 := Tryd.sizeOf82
  v46 := Tryd.zeroValue82
  t51 := Tryd.underlying76
  a51 := Tryd.isAgg76
  z51 := Tryd.sizeOf76
  v51 := Tryd.zeroValue76
  t53 := Tryd.underlying79
  a53 := Tryd.isAgg79
  z53 := Tryd.sizeOf79
  v53 := Tryd.zeroValue79
  t75 := Tryd.underlying50
  a75 := Tryd.isAgg50
  z75 := Tryd.sizeOf50
  v75 := Tryd.zeroValue50
  t76 := Tryd.underlying51
  a76 := Tryd.isAgg51
  z76 := Tryd.sizeOf51
  v76 := Tryd.zeroValue51
  t85 := Tryd.underlying64
  a85 := Tryd.isAgg64
  z85 := Tryd.sizeOf64
  v85 := Tryd.zeroValue64
  t127 := Tryd.underlying101
  a127 := Tryd.isAgg101
  z127 := Tryd.sizeOf101
  v127 := Tryd.zeroValue101
  t143 := Tryd.underlying102
  a143 := Tryd.isAgg102
  z143 := Tryd.sizeOf102
  v143 := Tryd.zeroValue102
  t145 := Tryd.underlying104
  a145 := Tryd.isAgg104
  z145 := Tryd.sizeOf104
  v145 := Tryd.zeroValue104
  t167 := Tryd.underlying63
  a167 := Tryd.isAgg63
  z167 := Tryd.sizeOf63
  v167 := Tryd.zeroValue63
  t168 := Tryd.underlying66
  a168 := Tryd.isAgg66
  z168 := Tryd.sizeOf66
  v168 := Tryd.zeroValue66
  t171 := Tryd.underlying105
  a171 := Tryd.isAgg105
  z171 := Tryd.sizeOf105
  v171 := Tryd.zeroValue105
  t173 := Tryd.underlying108
  a173 := Tryd.isAgg108
  z173 := Tryd.sizeOf108
  v173 := Tryd.zeroValue108
  t175 := Tryd.underlying80
  a175 := Tryd.isAgg80
  z175 := Tryd.sizeOf80
  v175 := Tryd.zeroValue80
  t210 := Tryd.underlying85
  a210 := Tryd.isAgg85
  z210 := Tryd.sizeOf85
  v210 := Tryd.zeroValue85
  t212 := Tryd.underlying118
  a212 := Tryd.isAgg118
  z212 := Tryd.sizeOf118
  v212 := Tryd.zeroValue118
  t213 := Tryd.underlying119
  a213 := Tryd.isAgg119
  z213 := Tryd.sizeOf119
  t232 := Tryd.underlying122
  a232 := Tryd.isAgg122
  z232 := Tryd.sizeOf122
  v232 := Tryd.zeroValue122
  t233 := Tryd.underlying123
  a233 := Tryd.isAgg123
  z233 := Tryd.sizeOf123
  v233 := Tryd.zeroValue123
  g15 := by kernel_rfl
  g16 := by kernel_rfl
  g17 := by kernel_rfl
  g18 := by kernel_rfl
  g19 := by kernel_rfl
  t80 := Tryd.underlying124
  a80 := Tryd.isAgg124
  z80 := Tryd.sizeOf124
  v80 := Tryd.zeroValue124
  i0 := by kernel_rfl
  i2 := by kernel_rfl
  i3 := by kernel_rfl
  i4 := by kernel_rfl
  i5 := by kernel_rfl
  i9 := by kernel_rfl
  i20 := by kernel_rfl
  i21 := by kernel_rfl
  i37 := by kernel_rfl
  i46 := by kernel_rfl
  i51 := by kernel_rfl
  i53 := by kernel_rfl
  i75 := by kernel_rfl
  i76 := by kernel_rfl
  i80 := by kernel_rfl
  i85 := by kernel_rfl
  i127 := by kernel_rfl
  i143 := by kernel_rfl
  i145 := by kernel_rfl
  i167 := by kernel_rfl
  i168 := by kernel_rfl
  i171 := by kernel_rfl
  i173 := by kernel_rfl
  i175 := by kernel_rfl
  i210 := by kernel_rfl
  i212 := by kernel_rfl
  i232 := by kernel_rfl
  i233 := by kernel_rfl
  m15 := by kernel_rfl
  m16 := by kernel_rfl
  m17 := by kernel_rfl
  m18 := by kernel_rfl
  m19 := by kernel_rfl
  c0 := by kernel_rfl
  c2 := by kernel_rfl
  c3 := by kernel_rfl
  c4 := by kernel_rfl
  c5 := by kernel_rfl
  c9 := by kernel_rfl
  c20 := by kernel_rfl
  c21 := by kernel_rfl
  c37 := by kernel_rfl
  c46 := by kernel_rfl
  c51 := by kernel_rfl
  c53 := by kernel_rfl
  c75 := by kernel_rfl
  c76 := by kernel_rfl
  c80 := by kernel_rfl
  c85 := by kernel_rfl
  c127 := by kernel_rfl
  c143 := by kernel_rfl
  c145 := by kernel_rfl
  c167 := by kernel_rfl
  c168 := by kernel_rfl
  c171 := by kernel_rfl
  c173 := by kernel_rfl
  c175 := by kernel_rfl
  c210 := by kernel_rfl
  c212 := by kernel_rfl
  c213 := by kernel_rfl
  c232 := by kernel_rfl
  c233 := by kernel_rfl }

end Go.Proofs
namespace Go.Proofs.YtkegjmkdnfpfdaaDoor.DReadInstr
open Go.ChangeShapes Go.WideShapes Go.ChangeAt Go.RowKit
open Go.ChangeMaps (open_string shut_string)
open Go.Proofs.YtkegjmkdnfpfdaaDoor.MFnExactReadInstr Go.Proofs.YtkegjmkdnfpfdaaDoorW.PrintWords Go.Proofs.YtkegjmkdnfpfdaaDoorW.PrintLast Go.Proofs.YtkegjmkdnfpfdaaDoorW.PrintMore
/-- The runs of bytes other than spaces, one at work. -/
def wk : List UInt8 → List UInt8 → List (List UInt8)
  | cur, [] => if cur = [] then [] else [cur]
  | cur, c :: r => if c = 32 then (if cur = [] then [] else [cur]) ++ wk [] r else wk (cur ++ [c]) r
theorem wk_run : ∀ (p cur r : List UInt8), (∀ c ∈ p, c ≠ 32) → wk cur (p ++ r) = wk (cur ++ p) r
  | [], cur, r, _ => by rw [List.append_nil]; rfl
  | c :: p, cur, r, h => by
    rw [List.cons_append, wk, if_neg (h c (List.mem_cons_self ..)), wk_run p (cur ++ [c]) r (fun x hx => h x (List.mem_cons_of_mem _ hx)), List.append_assoc]
    rfl
theorem indexByte_split : ∀ (s : List UInt8) (c : UInt8) (i : Nat), Go.Lib.indexByte s c = (i : Int) → (∀ x ∈ s.take i, x ≠ c) ∧ s.drop i = c :: s.drop (i + 1)
  | [], c, i, h => by simp [Go.Lib.indexByte] at h
  | x :: s, c, i, h => by
    unfold Go.Lib.indexByte at h
    by_cases hx : x = c
    · subst hx
      simp at h
      have : i = 0 := by omega
      subst this
      simp
    · have hx' : (x == c) = false := by simpa using hx
      simp only [hx'] at h
      by_cases hm : Go.Lib.indexByte s c = -1
      · rw [hm] at h; simp at h
      · cases i with
        | zero => exfalso; have h0 := Go.Lib.indexByte_ge s c; simp [hm] at h; omega
        | succ i =>
          have h2 : Go.Lib.indexByte s c = (i : Int) := by simp [hm] at h; omega
          obtain ⟨q1, q2⟩ := indexByte_split s c i h2
          refine ⟨fun y hy => ?_, by simpa using q2⟩
          rw [List.take_succ_cons] at hy
          rcases List.mem_cons.1 hy with rfl | hy
          · exact hx
          · exact q1 y hy
theorem indexByte_none : ∀ (s : List UInt8) (c : UInt8), Go.Lib.indexByte s c = -1 → ∀ x ∈ s, x ≠ c
  | [], c, _ => by simp
  | y :: s, c, h => by
    unfold Go.Lib.indexByte at h
    by_cases hx : y = c
    · subst hx; simp at h
    · have hx' : (y == c) = false := by simpa using hx
      simp only [hx'] at h
      have hm : Go.Lib.indexByte s c = -1 := by
        by_cases hm : Go.Lib.indexByte s c = -1
        · exact hm
        · have h0 := Go.Lib.indexByte_ge s c; simp [hm] at h; omega
      intro x hx2
      rcases List.mem_cons.1 hx2 with rfl | hx2
      · exact hx
      · exact indexByte_none s c hm x hx2
/-- strings.Split at a space, without what is empty: the runs. -/
theorem split_wk : ∀ (k : Nat) (s : List UInt8), s.count 32 ≤ k → (Go.Lib.splitK [32] 0 k s).filter (fun x => !decide (x = [])) = wk [] s
  | 0, s, h => by
    have hn : ∀ c ∈ s, c ≠ 32 := fun c hc e => by subst e; have := List.count_pos_iff.2 hc; omega
    have := wk_run s [] [] hn
    rw [List.append_nil, List.nil_append] at this
    rw [this]
    unfold Go.Lib.splitK wk
    by_cases e : s = [] <;> simp [e]
  | k + 1, s, h => by
    unfold Go.Lib.splitK
    by_cases hm : Go.Lib.index s [32] = -1
    · rw [if_pos (by simpa using hm)]
      rw [Go.Lib.index_one] at hm
      have hn := indexByte_none s 32 hm
      have := wk_run s [] [] hn
      rw [List.append_nil, List.nil_append] at this
      rw [this]
      unfold wk
      by_cases e : s = [] <;> simp [e]
    · rw [if_neg (by simpa using hm)]
      have hge := Go.Lib.index_ge s [32]
      obtain ⟨i, hi⟩ : ∃ i : Nat, Go.Lib.index s [32] = (i : Int) := ⟨(Go.Lib.index s [32]).toNat, by omega⟩
      rw [hi]
      rw [Go.Lib.index_one] at hi
      obtain ⟨q1, q2⟩ := indexByte_split s 32 i hi
      have hc : (s.drop (i + 1)).count 32 ≤ k := by
        have e := congrArg (List.count 32) (List.take_append_drop i s)
        rw [List.count_append, q2, List.count_cons_self] at e
        omega
      have hs : s = s.take i ++ 32 :: s.drop (i + 1) := by rw [← q2, List.take_append_drop]
      have e1 : wk [] s = (if s.take i = [] then [] else [s.take i]) ++ wk [] (s.drop (i + 1)) := by
        conv => lhs; rw [hs]
        rw [wk_run _ _ _ q1, List.nil_append, wk, if_pos rfl]
      have e2 : ((i : Int).toNat + [(32 : UInt8)].length) = i + 1 := rfl
      have e3 : ((i : Int).toNat + 0) = i := rfl
      rw [e1, e2, e3, List.filter_cons, split_wk k _ hc]
      by_cases e : s.take i = [] <;> simp [e]
def wordsB (a : ByteArray) : List ByteArray := (wk [] a.data.toList).map fun l => (⟨l.toArray⟩ : ByteArray)
theorem bt_list (a : ByteArray) (i : Nat) (h : i < a.size) : ∃ c : UInt8, a.data.toList.drop i = c :: a.data.toList.drop (i + 1) ∧ bt a (i : Int) = (c.toNat : Int) := by
  have hl : i < a.data.toList.length := by simpa using h
  refine ⟨a.data.toList[i], List.drop_eq_getElem_cons hl, ?_⟩
  unfold bt
  rw [dif_pos (by simpa using h)]
  rfl
theorem cur_next (l : List UInt8) (f i : Nat) (hf : f ≤ i) (c : UInt8) (h : l.drop i = c :: l.drop (i + 1)) : (l.take (i + 1)).drop f = (l.take i).drop f ++ [c] := by
  have hi : i < l.length := by
    rcases Nat.lt_or_ge i l.length with q | q
    · exact q
    · rw [List.drop_of_length_le q] at h; cases h
  have e : l[i] = c := by
    rw [List.drop_eq_getElem_cons hi] at h
    exact (List.cons.inj h).1
  rw [List.take_succ_eq_append_getElem hi, List.drop_append_of_le_length (by rw [List.length_take]; omega), e]
theorem ext_cur (a : ByteArray) (f i : Nat) : a.extract ((f : Int)).toNat ((i : Int)).toNat = (⟨((a.data.toList.take i).drop f).toArray⟩ : ByteArray) := by
  apply ByteArray.ext
  apply Array.toList_inj.mp
  simp [ByteArray.data_extract, List.drop_take]
theorem cur_nil (a : ByteArray) (f i : Nat) (hi : i ≤ a.size) : (a.data.toList.take i).drop f = [] ↔ i ≤ f := by
  rw [List.drop_eq_nil_iff, List.length_take]
  have : a.data.toList.length = a.size := by simp
  omega
theorem words_from (a : ByteArray) (hs : a.size ≤ 4611686018427) : ∀ (d k i f : Nat) (out : List ByteArray), a.size + 1 - i ≤ d → 2 * d + 1 ≤ k → f ≤ i → i ≤ a.size → out.length ≤ i →
    spec_l00Words.l0 k a out (f : Int) (i : Int) = some (out ++ (wk ((a.data.toList.take i).drop f) (a.data.toList.drop i)).map fun l => (⟨l.toArray⟩ : ByteArray)) := by
  intro d
  induction d with
  | zero => intro k i f out hd hk hf hi; omega
  | succ d ih =>
    intro k i f out hd hk hf hi ho
    obtain ⟨k, rfl⟩ : ∃ m, k = m + 2 := ⟨k - 2, by omega⟩
    have hw : wrap64 ((i : Int) + 1) = ((i + 1 : Nat) : Int) := by unfold wrap64; omega
    rw [spec_l00Words.l0, if_pos (by omega)]
    by_cases he : i = a.size
    · subst he
      rw [if_pos rfl, spec_l00Words.j1, if_pos rfl, hw]
      have hdr : a.data.toList.drop a.size = [] := List.drop_of_length_le (by simp)
      have hend : ∀ (o : List ByteArray) (f' : Nat), spec_l00Words.l0 k a o (f' : Int) ((a.size + 1 : Nat) : Int) = some o := by
        intro o f'
        obtain ⟨k, rfl⟩ : ∃ m, k = m + 1 := ⟨k - 1, by omega⟩
        rw [spec_l00Words.l0, if_neg (by omega)]
      rw [hdr, wk]
      by_cases hc : a.size ≤ f
      · rw [if_neg (by omega), hend, if_pos ((cur_nil a f a.size (Nat.le_refl _)).2 hc)]
        simp
      · rw [if_pos (by omega), if_pos (by omega), if_pos (by omega), if_pos (by omega), if_pos (by omega), hend, if_neg (fun e => hc ((cur_nil a f a.size (Nat.le_refl _)).1 e)), ext_cur]
        rfl
    · have hlt : i < a.size := by omega
      obtain ⟨c, hd1, hb⟩ := bt_list a i hlt
      rw [if_neg (by omega), if_pos (by omega), if_pos (by omega), spec_l00Words.j1, hb, hw, hd1, wk]
      have hc32 : ((c.toNat : Int) == 32) = decide (c = 32) := by
        by_cases q : c = 32
        · subst q; rfl
        · rw [decide_eq_false q]
          apply beq_eq_false_iff_ne.2
          intro e
          apply q
          apply UInt8.toNat_inj.1
          show c.toNat = 32
          omega
      rw [hc32]
      by_cases q : c = 32
      · rw [if_pos (by rw [decide_eq_true q]), if_pos q]
        have hn : ((a.data.toList.take (i + 1)).drop (i + 1)) = [] := (cur_nil a (i + 1) (i + 1) hlt).2 (Nat.le_refl _)
        by_cases hc : i ≤ f
        · rw [if_neg (by omega), if_pos ((cur_nil a f i hi).2 hc), ih k (i + 1) (i + 1) out (by omega) (by omega) (Nat.le_refl _) hlt (by omega), hn]
          rfl
        · rw [if_pos (by omega), if_pos (by omega), if_pos (by omega), if_pos (by omega), if_pos (by omega), if_neg (fun e => hc ((cur_nil a f i hi).1 e)), ih k (i + 1) (i + 1) _ (by omega) (by omega) (Nat.le_refl _) hlt (by rw [List.length_append]; simp; omega), hn, ext_cur, List.map_append, List.append_assoc]
          rfl
      · rw [if_neg (by rw [decide_eq_false q]; decide), if_neg q, ih k (i + 1) f out (by omega) (by omega) (by omega) hlt (by omega), cur_next _ f i hf c hd1]
theorem spec_words (a : ByteArray) (hs : a.size ≤ 4611686018427) (k : Nat) (hk : 2 * a.size + 3 ≤ k) : spec_l00Words.f k a = some (wordsB a) := by
  have h := words_from a hs (a.size + 1) k 0 0 [] (by omega) (by omega) (Nat.le_refl _) (Nat.zero_le _) (Nat.le_refl _)
  unfold spec_l00Words.f wordsB
  simpa using h
/-- What a call hands back that makes a list of words. -/
def Words (ws : List ByteArray) (w : World) (e : Ending) (w' : World) : Prop := ∃ A c, e = .returned (.slice A ws.length c) ∧ ws.length ≤ c ∧ Kd.C Kd.string w' A ws.length ws ∧ Below w.heap.size w w'
theorem words_of_fields (s : ByteArray) (ws : List ByteArray) (hw : (Lib.fields s.data.toList).map (fun l => (⟨l.toArray⟩ : ByteArray)) = ws) (hn : ws.length ≤ 1000) (hs : s.size < 4294967281) (ha : s.data.toList.all (fun b => decide (b.toNat < 128)) = true) (w : World) (hT : Lib.TabIs Tryd.prog w "strings.asciiSpace" .u8 Lib.asciiSpaceTab) :
    Calls Tryd.prog 41 #[.string s] w (Words ws w) := by
  refine (Tryd.strings_Fields_laid s w hs (fun j b h => of_decide_eq_true (List.all_eq_true.1 ha b (List.mem_of_getElem? h))) hT).mono ?_
  rintro e w' ⟨rfl, rfl⟩
  have e0 : ((Lib.fields s.data.toList).map fun l => Value.string ⟨l.toArray⟩) = ws.map Value.string := by rw [← hw, List.map_map]; rfl
  have e2 : (Lib.fields s.data.toList).length = ws.length := by rw [← hw, List.length_map]
  rw [e0, e2]
  refine ⟨_, _, rfl, Nat.le_refl _, ⟨rfl, by omega, fun _ => ⟨_, rfl, fun j p hp => ⟨[.string p], rfl, rfl, fun i u hu => ?_⟩⟩⟩, (Below.refl _ _).alloc (Nat.le_refl _) _⟩
  have hi : i = 0 := by
    rcases Nat.eq_zero_or_pos i with h | h
    · exact h
    · rw [List.getElem?_eq_none (by simp; omega)] at hu; cases hu
  subst hi
  obtain rfl : Value.string p = u := by simpa using hu
  have e1 : Kd.string.sz = 1 := rfl
  rw [e1, Nat.mul_one, Nat.add_zero, Go.Proofs.YtkegjmkdnfpfdaaDoorW.PrintWords.add_plain]
  rw [World.cell?_alloc_at _ _ _ _ rfl, List.getElem?_toArray, List.getElem?_map, hp]
  rfl
/-- The place of a text among others. -/
def plc : List ByteArray → ByteArray → Int → Int
  | [], _, _ => -1
  | w :: ws, s, i => if w.toList = s.toList then i else plc ws s (i + 1)
theorem str_at {w : World} {A : Option Addr} {n : Nat} {xs : List ByteArray} (h : Kd.C Kd.string w A n xs) (i : Int) (h0 : 0 ≤ i) (h1 : i < n) : ∃ ad, A = some ad ∧ w.cell? (ad.add i.toNat) = some (.string (xs.getD i.toNat ByteArray.empty)) := by
  obtain ⟨ad, c, e, _, hK, hc⟩ := Kd.C_get h ByteArray.empty i h0 h1
  have hK' : c = [Value.string (xs.getD i.toNat ByteArray.empty)] := hK
  subst hK'
  have q := hc 0 _ rfl
  have e1 : Kd.string.sz = 1 := rfl
  rw [e1, Nat.mul_one, Nat.add_zero] at q
  exact ⟨ad, e, q⟩
def ow : List ByteArray := [(⟨#[112, 117, 115, 104]⟩ : ByteArray), (⟨#[102, 108, 97, 103]⟩ : ByteArray), (⟨#[108, 111, 97, 100]⟩ : ByteArray), (⟨#[115, 116, 111, 114, 101]⟩ : ByteArray), (⟨#[105, 110]⟩ : ByteArray), (⟨#[111, 117, 116]⟩ : ByteArray), (⟨#[112, 101, 101, 107]⟩ : ByteArray), (⟨#[112, 111, 107, 101]⟩ : ByteArray), (⟨#[97, 100, 100]⟩ : ByteArray), (⟨#[115, 117, 98]⟩ : ByteArray), (⟨#[109, 117, 108]⟩ : ByteArray), (⟨#[100, 105, 118]⟩ : ByteArray), (⟨#[108, 101, 115, 115]⟩ : ByteArray), (⟨#[115, 97, 109, 101]⟩ : ByteArray), (⟨#[97, 110, 100]⟩ : ByteArray), (⟨#[111, 114]⟩ : ByteArray), (⟨#[110, 111, 116]⟩ : ByteArray), (⟨#[115, 101, 108]⟩ : ByteArray), (⟨#[98, 108, 111, 99, 107]⟩ : ByteArray), (⟨#[118, 97, 108, 117, 101]⟩ : ByteArray), (⟨#[105, 102]⟩ : ByteArray), (⟨#[101, 108, 115, 101]⟩ : ByteArray), (⟨#[101, 110, 100]⟩ : ByteArray), (⟨#[114, 101, 112, 101, 97, 116]⟩ : ByteArray), (⟨#[99, 117, 116]⟩ : ByteArray), (⟨#[99, 97, 108, 108]⟩ : ByteArray)]
theorem opNames_calls (w : World) (hT : Lib.TabIs Tryd.prog w "strings.asciiSpace" .u8 Lib.asciiSpaceTab) : Calls Tryd.prog 32 #[] w (Words ow w) := by
  have cF := words_of_fields (⟨#[112, 117, 115, 104, 32, 102, 108, 97, 103, 32, 108, 111, 97, 100, 32, 115, 116, 111, 114, 101, 32, 105, 110, 32, 111, 117, 116, 32, 112, 101, 101, 107, 32, 112, 111, 107, 101, 32, 97, 100, 100, 32, 115, 117, 98, 32, 109, 117, 108, 32, 100, 105, 118, 32, 108, 101, 115, 115, 32, 115, 97, 109, 101, 32, 97, 110, 100, 32, 111, 114, 32, 110, 111, 116, 32, 115, 101, 108, 32, 98, 108, 111, 99, 107, 32, 118, 97, 108, 117, 101, 32, 105, 102, 32, 101, 108, 115, 101, 32, 101, 110, 100, 32, 114, 101, 112, 101, 97, 116, 32, 99, 117, 116, 32, 99, 97, 108, 108]⟩ : ByteArray) ow (by kernel_rfl) (by decide +kernel) (by decide +kernel) (by kernel_rfl) w hT
  clear hT
  go_enter Tryd.func32, Tryd.ntmps32
  go_wp2_with (first | (go_at_call 41; refine cF.mono ?_; rintro e w' ⟨A, c, rfl, hl, hC, hb⟩; have HL := Aside0.mk hl; have HC := Aside0.mk hC; have HB := Aside0.mk hb; clear hl hC hb))
  go_ret
  exact ⟨A, c, rfl, HL.out, HC.out, HB.out⟩
theorem plc_drop (ws : List ByteArray) (s : ByteArray) (i : Nat) (h : i < ws.length) : plc (ws.drop i) s (i : Int) = if (ws.getD i ByteArray.empty).toList = s.toList then (i : Int) else plc (ws.drop (i + 1)) s ((i + 1 : Nat) : Int) := by
  rw [List.drop_eq_getElem_cons h]
  simp only [plc, List.getD_eq_getElem?_getD, List.getElem?_eq_getElem h, Option.getD_some]
  rfl
theorem plc_range : ∀ (ws : List ByteArray) (s : ByteArray) (i : Int), plc ws s i = -1 ∨ (i ≤ plc ws s i ∧ plc ws s i < i + ws.length)
  | [], s, i => .inl rfl
  | x :: ws, s, i => by
    simp only [plc]
    split
    · exact .inr ⟨Int.le_refl _, by simp; omega⟩
    · rcases plc_range ws s (i + 1) with h | h
      · exact .inl h
      · exact .inr ⟨by omega, by simp only [List.length_cons]; omega⟩
theorem place_from (ws : List ByteArray) (s : ByteArray) (hl : ws.length ≤ 1000) : ∀ (d k i : Nat), ws.length - i ≤ d → d < k → i ≤ ws.length → spec_l02Place.l0 k ws s (i : Int) = some (plc (ws.drop i) s (i : Int)) := by
  intro d
  induction d with
  | zero =>
    intro k i hd hk hi
    obtain ⟨k, rfl⟩ : ∃ m, k = m + 1 := ⟨k - 1, by omega⟩
    simp only [spec_l02Place.l0]
    rw [if_neg (by omega), List.drop_of_length_le (by omega)]
    simp only [plc]
  | succ d ih =>
    intro k i hd hk hi
    obtain ⟨k, rfl⟩ : ∃ m, k = m + 1 := ⟨k - 1, by omega⟩
    by_cases h : i < ws.length
    · have hw : wrap64 ((i : Int) + 1) = ((i + 1 : Nat) : Int) := by unfold wrap64; omega
      have e : rdOf ByteArray.empty ws (i : Int) = ws.getD i ByteArray.empty := rfl
      have ih1 := ih k (i + 1) (by omega) (by omega) (by omega)
      have p1 : (i : Int) < (ws.length : Int) := by omega
      have p2 : (0 : Int) ≤ (i : Int) := by omega
      simp only [spec_l02Place.l0, if_pos p1, if_pos p2, e, hw, ih1]
      rw [plc_drop ws s i h]
      split <;> rfl
    · simp only [spec_l02Place.l0]
      rw [if_neg (by omega), List.drop_of_length_le (by omega)]
      simp only [plc]
theorem ow_long (s : ByteArray) (h : 65536 < s.size) : plc ow s 0 = -1 := by
  have key : ∀ (ws : List ByteArray) (i : Int), (ws.all fun x => decide (x.toList.length ≤ 10)) = true → plc ws s i = -1 := by
    intro ws
    induction ws with
    | nil => intro i _; rfl
    | cons x ws ih =>
      intro i hx
      rw [List.all_cons, Bool.and_eq_true] at hx
      simp only [plc]
      rw [if_neg, ih _ hx.2]
      intro he
      have h1 := of_decide_eq_true hx.1
      rw [he, ByteArray.toList_eq, Array.length_toList] at h1
      have h2 : s.data.size = s.size := rfl
      omega
  exact key ow 0 (by decide +kernel)
/-- What the law's two sides tell. -/
theorem specOf (s : ByteArray) : spec_OpOf.f 30 s = some (plc ow s 0 + 1) := by
  have hlen : ow.length = 26 := by decide
  unfold spec_OpOf.f
  by_cases h : (s.size : Int) > 65536
  · rw [if_pos h, ow_long s (by omega)]; rfl
  · rw [if_neg h]
    have hp : spec_l02Place.f 30 ow s = some (plc ow s 0) := by
      unfold spec_l02Place.f
      have := place_from ow s (by omega) 26 30 0 (by omega) (by omega) (by omega)
      simpa using this
    change ((spec_l02Place.f 30 ow s).bind fun t108 => (some (wrap64 (t108 + 1)))) = _
    rw [hp]
    simp only [Option.bind_some]
    have := plc_range ow s 0
    have hw : wrap64 (plc ow s 0 + 1) = plc ow s 0 + 1 := by unfold wrap64; omega
    rw [hw]
set_option maxHeartbeats 4000000 in
set_option maxRecDepth 100000 in
theorem OpOf_calls (s : ByteArray) (w : World) (hT : Lib.TabIs Tryd.prog w "strings.asciiSpace" .u8 Lib.asciiSpaceTab) :
    Calls Tryd.prog 18 #[.string s] w fun e w' => e = .returned (.int .i64 (plc ow s 0 + 1)) ∧ Below w.heap.size w w' := by
  obtain ⟨r, hr⟩ : ∃ r, r = plc ow s 0 + 1 := ⟨_, rfl⟩
  rw [← hr]
  have HR := Aside0.mk hr
  have hlen : ow.length = 26 := by decide
  obtain ⟨n, hn⟩ : ∃ n, n = ow.length := ⟨_, rfl⟩
  have HN := Aside0.mk hn
  have H26 := Aside0.mk (hn.trans hlen)
  have HT := Aside0.mk hT
  clear hT hr hlen hn
  go_enter Tryd.func18, Tryd.ntmps18
  go_upto_region 2 with (first | (go_at_call 32; refine (opNames_calls _ HT.out).mono ?_; rintro e w1 ⟨A, c, rfl, hl, hC, hb⟩; have HB1 := Aside0.mk hb; rw [← HN.out] at hC; have HC := Aside0.mk hC; clear hl hC hb; rw [← HN.out]))
  go_loopg [7] (n) (fun kq v7 w' => ∃ i : Nat, v7 = .int .i64 (i : Int) ∧ Aside0 (kq + i = n) ∧ Aside0 (plc (ow.drop i) s (i : Int) = plc ow s 0) ∧ Aside0 (w' = w1))
  case atStart => exact ⟨0, rfl, ⟨by omega⟩, ⟨rfl⟩, ⟨rfl⟩⟩
  case round =>
    obtain ⟨i, rfl, HG, HP, HW⟩ := hrel
    obtain rfl := HW.out
    have h26 := H26.out
    have hn := HN.out
    have hg := HG.out
    by_cases hlt : i < n
    · cases gk with
      | zero => omega
      | succ k1 =>
        obtain ⟨ad, rfl, hcell⟩ := str_at HC.out (i : Int) (by omega) (by omega)
        obtain ⟨x, hx⟩ : ∃ x, x = ow.getD i ByteArray.empty := ⟨_, rfl⟩
        have HX := Aside0.mk hx
        have hcell2 : wr.cell? (ad.add i) = some (.string x) := by rw [hx]; exact hcell
        have hd := plc_drop ow s i (by omega)
        rw [← hx] at hd
        have p1 := eq_true (show (i : Int) < (n : Int) by omega)
        have p2 := eq_true (show (0 : Int) ≤ (i : Int) by omega)
        have p3 : decide ((i : Int) < (n : Int)) = true := decide_eq_true (by omega)
        have b1 : (i : Int) ≤ 100 := by omega
        have b2 : (0 : Int) ≤ (i : Int) := by omega
        have HG1 := Aside0.mk (show k1 + (i + 1) = n by omega)
        by_cases hc : x.toList = s.toList
        · have HF := Aside0.mk (show (i : Int) + 1 = r by rw [HR.out, ← HP.out, hd, if_pos hc])
          have c0 : (x.toList == s.toList) = true := by simpa using hc
          clear hcell hx hd hc h26 hn hg hlt HW
          go_wp2
          go_ret
          exact ⟨(show Ending.returned (.int .i64 ((i : Int) + 1)) = Ending.returned (.int .i64 r) by rw [HF.out]), HB1.out⟩
        · have HF := Aside0.mk (show plc (ow.drop (i + 1)) s ((i + 1 : Nat) : Int) = plc ow s 0 by rw [← HP.out, hd, if_neg hc])
          have c0 : (x.toList == s.toList) = false := by simpa using hc
          clear hcell hx hd hc h26 hn hg hlt HW
          go_wp2
          go_roundg k1
          case measure => omega
          case rel => exact ⟨i + 1, by go_num, HG1, HF, ⟨rfl⟩⟩
    · have e : i = n := by omega
      have HF := Aside0.mk (show (0 : Int) = r by rw [HR.out, ← HP.out, List.drop_of_length_le (by omega)]; rfl)
      have p3 : decide (i < n) = false := decide_eq_false (by omega)
      have p4 : (i < n) = False := eq_false (by omega)
      clear h26 hn hg hlt HW e
      go_wp2
      go_ret
      exact ⟨(show Ending.returned (.int .i64 0) = Ending.returned (.int .i64 r) by rw [HF.out]), HB1.out⟩
theorem gives24 (x : ByteArray) (W : World) : FnGives Tryd.prog 24 #[] #[.string x] (.bool (x.toList == ([] : List UInt8))) W := by
  refine (impl_words_1.calls x _ W rfl).mono ?_
  rintro e w' ⟨rfl, hd⟩
  obtain ⟨q, hq⟩ := hd
  exact ⟨rfl, q, by first | exact hq | exact hq.symm⟩
theorem ws_filter (a : ByteArray) (k : Nat) (hk : a.data.toList.count 32 ≤ k) : (Go.Lib.splitB ⟨#[32]⟩ 0 k a).filter (fun x => !(x.toList == ([] : List UInt8))) = wordsB a := by
  have h := split_wk k a.data.toList hk
  have h2 := Go.Lib.splitB_data ⟨#[32]⟩ 0 k a
  change (Go.Lib.splitB ⟨#[32]⟩ 0 k a).map (·.data.toList) = Go.Lib.splitK [32] 0 k a.data.toList at h2
  unfold wordsB
  rw [← h, ← h2, List.filter_map, List.map_map]
  have e : ((fun l => (⟨l.toArray⟩ : ByteArray)) ∘ fun x : ByteArray => x.data.toList) = id := by funext x; rfl
  rw [e, List.map_id]
  congr 1
  funext x
  show (!(x.toList == [])) = (!decide (x.data.toList = []))
  rw [ByteArray.toList_eq]
  by_cases q : x.data.toList = []
  · rw [q]; rfl
  · rw [decide_eq_false q, beq_eq_false_iff_ne.2 q]
set_option maxHeartbeats 4000000 in
theorem words_calls (a : ByteArray) (ha : a.size < 4294967281) (m : Int) (w : World) (hm : w.cell? ⟨4, 0, none⟩ = some (.int .i64 m)) : Calls Tryd.prog 10 #[.string a] w (Words (wordsB a) w) := by
  have hS := Tryd.strings_Split a ⟨#[32]⟩ m w ha hm (by decide)
  have hlen := Go.Lib.splitB_all ⟨#[32]⟩ (by decide) 0 _ a rfl
  have hcnt : a.data.toList.count 32 ≤ Go.Lib.countB a ⟨#[32]⟩ := Nat.le_of_eq (Go.Lib.count_one 32 a.data.toList).symm
  have hF := ws_filter a _ hcnt
  generalize Go.Lib.splitB ⟨#[32]⟩ 0 (Go.Lib.countB a ⟨#[32]⟩) a = ps at hS hlen hF
  have hsz : ps.length ≤ 9223372036854775807 := by
    have := Go.Lib.countB_le ⟨#[32]⟩ (by decide) a.size a (Nat.le_refl _)
    omega
  rw [← hlen] at hS
  clear hcnt
  have hH : Go.Sort.Holds Value.string (w.alloc (.cells (ps.map Value.string).toArray 9)) w.heap.size 0 ps.toArray := by
    intro j hj
    have hj' : j < ps.length := by simpa using hj
    refine ⟨?_, ?_⟩
    · rw [World.cell?_alloc_at _ _ _ _ rfl]
      simp [hj', getElem!_pos]
    · exact blk_frozen (blk_new w _) _
  have eg : ∀ args W, (callFunc 24 args).run Tryd.prog W = .ok (.enter 24 args) W := enters_of Tryd.func24 (by kernel_rfl) rfl
  have hD := AnyE.slices_DeleteFunc Tryd.lDel Value.string (fun _ => rfl) (fun x => x.toList == ([] : List UInt8)) 24 #[] eg ByteArray.empty Tryd.zeroValue9 w.heap.size 0 ps.length ps.toArray (w.alloc (.cells (ps.map Value.string).toArray 9)) (fun W x _ => gives24 x W) (fun n os dk x _ => gives24 x _) hH (by simpa using hsz) (by simp)
  change Calls Tryd.prog 22 _ _ _ at hD
  simp only [List.size_toArray] at hD
  rw [hF] at hD
  have HS := Aside0.mk hS
  have HD := Aside0.mk hD
  have HH := Aside0.mk hH
  have hle : (wordsB a).length ≤ ps.length := by rw [← hF]; exact List.length_filter_le _ _
  have HL := Aside0.mk hle
  have HZ := Aside0.mk hsz
  clear hS hD hH hm hlen hF hle hsz
  go_enter Tryd.func10, Tryd.ntmps10
  go_wp2_with (first
    | (go_at_call 23; refine HS.out.mono ?_; rintro e w1 ⟨rfl, hw⟩; have HW := Aside0.mk hw; clear hw)
    | (go_at_call 22; (rw [HW.out]); refine HD.out.mono ?_; rintro e w2 ⟨rfl, q, hw⟩; have HW2 := Aside0.mk hw; clear hw))
  go_ret
  refine ⟨_, _, rfl, HL.out, ⟨rfl, by have := HL.out; have := HZ.out; omega, fun _ => ⟨_, rfl, fun j p hp => ⟨[.string p], rfl, rfl, fun i u hu => ?_⟩⟩⟩, ?_⟩
  · have hi : i = 0 := by
      rcases Nat.eq_zero_or_pos i with h | h
      · exact h
      · rw [List.getElem?_eq_none (by simp; omega)] at hu; cases hu
    subst hi
    obtain rfl : Value.string p = u := by simpa using hu
    have e1 : Kd.string.sz = 1 := rfl
    rw [e1, Nat.mul_one, Nat.add_zero, Go.Proofs.YtkegjmkdnfpfdaaDoorW.PrintWords.add_plain]
    have hj : j < (wordsB a).length := (List.getElem?_eq_some_iff.1 hp).1
    have hs : ((wordsB a ++ List.replicate (ps.length - (wordsB a).length) ByteArray.empty).toArray).size = ps.toArray.size := by have := HL.out; simp; omega
    have hc := Go.Sort.cell?_putRow Value.string _ w.heap.size 0 ps.toArray (wordsB a ++ List.replicate (ps.length - (wordsB a).length) ByteArray.empty).toArray (Go.Sort.holds_ahead Value.string _ q w.heap.size 0 ps.toArray HH.out) hs j (by rw [hs]; have := HL.out; simp; omega)
    rw [HW2.out]
    refine Eq.trans ?_ (hc.trans ?_)
    · rw [Nat.zero_add]
    · congr 2
      rw [getElem!_pos _ j (by rw [hs]; have := HL.out; simp; omega)]
      simp only [List.getElem_toArray]
      rw [List.getElem_append_left hj]
      exact (List.getElem?_eq_some_iff.1 hp).2
  · rw [HW2.out]
    exact Go.Lib.below_putRow (below_alloc (Below.refl _ _) _) (Nat.le_refl _)
def owAt (a : Int) : ByteArray := if 1 ≤ a ∧ a ≤ 26 then ow.getD (a - 1).toNat ByteArray.empty else ⟨#[]⟩
theorem decFrom_app : ∀ (l m : List UInt8) (acc : Nat), Go.Lib.decFrom acc (l ++ m) = (Go.Lib.decFrom acc l).bind fun a => Go.Lib.decFrom a m
  | [], m, acc => rfl
  | b :: l, m, acc => by
    simp only [List.cons_append, Go.Lib.decFrom]
    cases Go.Lib.digitVal b with
    | none => rfl
    | some d => exact decFrom_app l m _
theorem dig_of {b : UInt8} {v : Nat} (h : Go.Lib.digitVal b = some v) : v < 10 ∧ b = UInt8.ofNat (48 + v) ∧ (b ≠ 48 → 1 ≤ v) := by
  unfold Go.Lib.digitVal at h
  split at h
  · rename_i q
    obtain rfl := Option.some.inj h
    refine ⟨by omega, ?_, fun hn => ?_⟩
    · apply UInt8.toNat_inj.1
      rw [UInt8.toNat_ofNat']
      omega
    · have : b.toNat ≠ 48 := fun e => hn (UInt8.toNat_inj.1 e)
      omega
  · cases h
theorem dig_to (v : Nat) (h : v < 10) : Go.Lib.digitVal (UInt8.ofNat (48 + v)) = some v := by
  unfold Go.Lib.digitVal
  have e : (UInt8.ofNat (48 + v)).toNat = 48 + v := by rw [UInt8.toNat_ofNat']; omega
  rw [e, if_pos (by omega)]
  congr 1
  omega
theorem dec_back (n : Nat) : ∀ (l : List UInt8) (m : Nat), l.length = n → Go.Lib.decFrom 0 l = some m → l ≠ [] → (l.head? = some 48 → l.length = 1) → Go.Lib.decDigits m = l ∧ (l.head? ≠ some 48 → 1 ≤ m) := by
  induction n with
  | zero => intro l m hl _ hne; exact absurd (List.length_eq_zero_iff.1 hl) hne
  | succ n ih =>
    intro l m hl hd hne hc
    obtain ⟨i, d, rfl⟩ : ∃ i d, l = i ++ [d] := ⟨l.dropLast, l.getLast hne, (List.dropLast_concat_getLast hne).symm⟩
    rw [decFrom_app] at hd
    obtain ⟨a, ha, hd⟩ := Option.bind_eq_some_iff.mp hd
    simp only [Go.Lib.decFrom] at hd
    cases hv : Go.Lib.digitVal d with
    | none => rw [hv] at hd; cases hd
    | some v =>
      rw [hv] at hd
      obtain rfl := Option.some.inj hd
      obtain ⟨v1, v2, v3⟩ := dig_of hv
      by_cases hi : i = []
      · subst hi
        simp only [Go.Lib.decFrom, Option.some.injEq] at ha
        subst ha
        rw [Nat.zero_mul, Nat.zero_add, List.nil_append]
        refine ⟨?_, fun h => v3 (fun e => h (by rw [e]; rfl))⟩
        rw [Go.Lib.decDigits_one v1, ← v2]
      · have hh : (i ++ [d]).head? = i.head? := by
          cases i with
          | nil => exact absurd rfl hi
          | cons x xs => rfl
        have hlen : i.length = n := by simpa using hl
        have hpos : 1 ≤ i.length := List.length_pos_iff.2 hi
        rw [hh] at hc
        have h48 : i.head? ≠ some 48 := fun e => by have := hc e; rw [List.length_append] at this; simp at this; exact hi this
        obtain ⟨e1, e2⟩ := ih i a hlen ha hi (fun e => absurd e h48)
        have ha1 := e2 h48
        refine ⟨?_, fun _ => by omega⟩
        rw [Go.Lib.decDigits, dif_neg (by omega), show (a * 10 + v) / 10 = a by omega, show (a * 10 + v) % 10 = v by omega, e1, ← v2]
theorem dec_fwd (n : Nat) : ∀ u : Nat, u ≤ n → Go.Lib.decFrom 0 (Go.Lib.decDigits u) = some u ∧ ∃ h, (Go.Lib.decDigits u).head? = some h ∧ 48 ≤ h.toNat ∧ h.toNat ≤ 57 ∧ (h = 48 → u = 0) := by
  induction n with
  | zero =>
    intro u hu
    obtain rfl : u = 0 := by omega
    rw [Go.Lib.decDigits_one (by decide)]
    exact ⟨by decide, 48, rfl, by decide, by decide, fun _ => rfl⟩
  | succ n ih =>
    intro u hu
    by_cases h : u < 10
    · rw [Go.Lib.decDigits_one h]
      refine ⟨?_, _, rfl, ?_, ?_, fun e => ?_⟩
      · simp only [Go.Lib.decFrom, dig_to u h, Nat.zero_mul, Nat.zero_add]
      · rw [UInt8.toNat_ofNat']; omega
      · rw [UInt8.toNat_ofNat']; omega
      · have := congrArg UInt8.toNat e
        rw [UInt8.toNat_ofNat'] at this
        have e48 : (48 : UInt8).toNat = 48 := rfl
        omega
    · obtain ⟨i1, x, i2, i3, i4, i5⟩ := ih (u / 10) (by omega)
      rw [Go.Lib.decDigits, dif_neg h]
      refine ⟨?_, x, ?_, i3, i4, fun e => by have := i5 e; omega⟩
      · rw [decFrom_app, i1]
        simp only [Option.bind_some, Go.Lib.decFrom, dig_to (u % 10) (by omega)]
        congr 1
        omega
      · cases hq : Go.Lib.decDigits (u / 10) with
        | nil => rw [hq] at i2; cases i2
        | cons y ys => rw [hq] at i2; exact i2
/-- Of at most 18 digits. -/
theorem dec_lt : ∀ (l : List UInt8) (acc m k : Nat), acc < 10 ^ k → Go.Lib.decFrom acc l = some m → m < 10 ^ (l.length + k)
  | [], acc, m, k, h, hd => by
    obtain rfl := Option.some.inj hd
    simpa using h
  | b :: l, acc, m, k, h, hd => by
    simp only [Go.Lib.decFrom] at hd
    cases hv : Go.Lib.digitVal b with
    | none => rw [hv] at hd; cases hd
    | some v =>
      rw [hv] at hd
      have hv1 := (dig_of hv).1
      have := dec_lt l (acc * 10 + v) m (k + 1) (by rw [Nat.pow_succ]; omega) hd
      rw [List.length_cons, show l.length + 1 + k = l.length + (k + 1) by omega]
      exact this
theorem wr_one (acc cn : Nat) (h : acc < 100000000000000000) (h1 : 48 ≤ cn) (h2 : cn ≤ 57) : wrap64 (wrap64 (wrap64 ((acc : Int) * 10) + wrap64 (cn : Int)) - 48) = ((acc * 10 + (cn - 48) : Nat) : Int) := by
  unfold wrap64
  omega
theorem wr_i (i : Nat) (h : i < 1000) : wrap64 ((i : Int) + 1) = ((i + 1 : Nat) : Int) := by unfold wrap64; omega
theorem pw_one (acc i v : Nat) (h : acc < 10 ^ i) (hv : v < 10) : acc * 10 + v < 10 ^ (i + 1) := by rw [Nat.pow_succ]; omega
theorem pw_17 (acc i : Nat) (h : acc < 10 ^ i) (hi : i ≤ 17) : acc < 100000000000000000 := Nat.lt_of_lt_of_le h (Nat.pow_le_pow_right (by decide) hi)
theorem num_from (x : ByteArray) (hx : x.size ≤ 18) (sg : Int) : ∀ (d k i acc : Nat), x.size - i ≤ d → d < k → i ≤ x.size → acc < 10 ^ i →
    spec_l00Number.l0 k x sg (acc : Int) (i : Int) = match Go.Lib.decFrom acc (x.data.toList.drop i) with
      | some m => some (wrap64 (sg * (m : Int)), true)
      | none => some (0, false) := by
  intro d
  induction d with
  | zero =>
    intro k i acc hd hk hi ha
    obtain ⟨k, rfl⟩ : ∃ m, k = m + 1 := ⟨k - 1, by omega⟩
    rw [spec_l00Number.l0, if_neg (by omega), List.drop_of_length_le (by simp; omega)]
    rfl
  | succ d ih =>
    intro k i acc hd hk hi ha
    have IH := ih
    obtain ⟨k, rfl⟩ : ∃ m, k = m + 1 := ⟨k - 1, by omega⟩
    by_cases h : i < x.size
    · obtain ⟨c, hd1, hb⟩ := bt_list x i h
      rw [spec_l00Number.l0, if_pos (by omega), if_pos (by omega), hb, hd1]
      simp only [Go.Lib.decFrom]
      by_cases q1 : c.toNat < 48
      · rw [if_pos (by omega), show Go.Lib.digitVal c = none by unfold Go.Lib.digitVal; rw [if_neg (by omega)]]
      · by_cases q2 : 57 < c.toNat
        · rw [if_neg (by omega), if_pos (by omega), show Go.Lib.digitVal c = none by unfold Go.Lib.digitVal; rw [if_neg (by omega)]]
        · rw [if_neg (by omega), if_neg (by omega), show Go.Lib.digitVal c = some (c.toNat - 48) by unfold Go.Lib.digitVal; rw [if_pos (by omega)]]
          have hi17 : i ≤ 17 := by omega
          have hc1 : 48 ≤ c.toNat := by omega
          have hc2 : c.toNat ≤ 57 := by omega
          rw [wr_one acc c.toNat (pw_17 acc i ha hi17) hc1 hc2, wr_i i (by omega)]
          exact ih k (i + 1) (acc * 10 + (c.toNat - 48)) (by omega) (by omega) (by omega) (pw_one acc i _ ha (by omega))
    · rw [spec_l00Number.l0, if_neg (by omega), List.drop_of_length_le (by simp; omega)]
      rfl
/-- What follows the sign. -/
theorem num_j1 (x : ByteArray) (sg : Int) (k : Nat) (hk : 30 ≤ k) : spec_l00Number.j1 k x sg = if x.data.toList = [] ∨ 18 < x.size ∨ (x.data.toList.head? = some 48 ∧ (1 < x.size ∨ sg < 0)) then some (0, false) else match Go.Lib.decFrom 0 x.data.toList with
      | some m => some (wrap64 (sg * (m : Int)), true)
      | none => some (0, false) := by
  obtain ⟨k, rfl⟩ : ∃ m, k = m + 2 := ⟨k - 2, by omega⟩
  have hl : x.data.toList.length = x.size := by simp
  have hF : x.size ≤ 18 → spec_l00Number.j2 (k + 1) x sg false = match Go.Lib.decFrom 0 x.data.toList with
      | some m => some (wrap64 (sg * (m : Int)), true)
      | none => some (0, false) := by
    intro h
    rw [spec_l00Number.j2, if_neg (by decide)]
    have := num_from x h sg 18 k 0 0 (by omega) (by omega) (by omega) (by decide)
    simpa using this
  have hT : spec_l00Number.j2 (k + 1) x sg true = some (0, false) := by rw [spec_l00Number.j2, if_pos rfl]
  rw [spec_l00Number.j1]
  by_cases h0 : x.size = 0
  · rw [if_pos (by omega), hT, if_pos (.inl (List.length_eq_zero_iff.1 (by omega)))]
  · have hne : x.data.toList ≠ [] := fun e => h0 (by rw [← hl, e]; rfl)
    rw [if_neg (by omega)]
    by_cases h1 : 18 < x.size
    · rw [if_pos (by omega), hT, if_pos (.inr (.inl h1))]
    · rw [if_neg (by omega), if_pos (by omega)]
      obtain ⟨c, hd1, hb⟩ := bt_list x 0 (by omega)
      rw [List.drop_zero] at hd1
      have hh : x.data.toList.head? = some c := by rw [hd1]; rfl
      rw [hh]
      have hb0 : bt x 0 = (c.toNat : Int) := hb
      rw [hb0]
      by_cases h2 : c = 48
      · subst h2
        rw [if_pos (show (((48 : UInt8).toNat : Nat) : Int) = 48 from rfl)]
        by_cases h3 : 1 < x.size
        · rw [if_pos (by omega), hT, if_pos (.inr (.inr ⟨rfl, .inl h3⟩))]
        · rw [if_neg (by omega)]
          by_cases h4 : sg < 0
          · rw [decide_eq_true h4, hT, if_pos (.inr (.inr ⟨rfl, .inr h4⟩))]
          · rw [decide_eq_false h4, hF (by omega), if_neg]
            rintro (h | h | ⟨_, h | h⟩)
            · exact hne h
            · exact h1 h
            · exact h3 h
            · exact h4 h
      · have h2' : ¬ (c.toNat : Int) = 48 := fun e => h2 (UInt8.toNat_inj.1 (by show c.toNat = 48; omega))
        rw [if_neg h2', hF (by omega), if_neg]
        rintro (h | h | ⟨h, _⟩)
        · exact hne h
        · exact h1 h
        · exact h2 (Option.some.inj h)
theorem ext1 (t : ByteArray) (c : UInt8) (r : List UInt8) (h : t.data.toList = c :: r) : (t.extract 1 t.size).data.toList = r := by
  have hl : r.length = t.size - 1 := by have := congrArg List.length h; simp at this; omega
  rw [ByteArray.data_extract]
  simp [h]
  exact List.take_of_length_le (Nat.le_of_eq hl)
/-- A sign or none. -/
theorem num_f (t : ByteArray) (k : Nat) (hk : 40 ≤ k) : spec_l00Number.f k t = (match t.data.toList with
    | 45 :: _ => spec_l00Number.j1 (k - 1) (t.extract 1 t.size) (-1)
    | _ => spec_l00Number.j1 (k - 1) t 1) := by
  obtain ⟨k, rfl⟩ : ∃ m, k = m + 1 := ⟨k - 1, by omega⟩
  have hl : t.data.toList.length = t.size := by simp
  unfold spec_l00Number.f
  cases h : t.data.toList with
  | nil =>
    rw [h] at hl
    rw [if_neg (by simp at hl; omega), spec_l00Number.j0, if_neg (by decide)]
    rfl
  | cons c r =>
    rw [h] at hl
    have hp : 0 < t.size := by simp at hl; omega
    rw [if_pos (by omega), if_pos (by omega), spec_l00Number.j0]
    obtain ⟨c', hd1, hb⟩ := bt_list t 0 hp
    rw [List.drop_zero, h] at hd1
    obtain rfl := (List.cons.inj hd1).1
    have hb0 : bt t 0 = (c.toNat : Int) := hb
    rw [hb0]
    by_cases q : c = 45
    · subst q
      rw [if_pos (show (((45 : UInt8).toNat : Int) == 45) = true from rfl), if_pos (by omega)]
      rfl
    · have q' : ¬ ((c.toNat : Int) == 45) = true := by
        intro e
        have e2 := beq_iff_eq.1 e
        exact q (UInt8.toNat_inj.1 (by show c.toNat = 45; omega))
      rw [if_neg q']
      split
      · rename_i heq
        exact absurd (List.cons.inj heq).1 q
      · rfl
theorem tab_below {name : String} {kd_ : IntKind} {zs : List Int} {w w' : World} (h : Lib.TabIs Tryd.prog w name kd_ zs) (hb : Below w.heap.size w w') : Lib.TabIs Tryd.prog w' name kd_ zs := by
  unfold Lib.TabIs World.var? at h ⊢
  cases hg : Tryd.prog.globalNamed name with
  | none => simp [hg] at h
  | some g =>
    simp only [hg, Option.bind_some] at h ⊢
    have hlt : g < w.heap.size := by
      rcases Nat.lt_or_ge g w.heap.size with h' | h'
      · exact h'
      · simp [Array.getElem?_eq_none h'] at h
    rw [hb.block g hlt]
    exact h
theorem bcell0 {W w1 : World} (hb : Below W.heap.size W w1) : ∀ b o, b < W.heap.size → w1.cell? ⟨b, o, none⟩ = W.cell? ⟨b, o, none⟩ := fun b o h => hb.cell (p := ⟨b, o, none⟩) h
theorem decimal_calls (n : Int) (h0 : -9223372036854775808 ≤ n) (h1 : n ≤ 9223372036854775807) (s : ByteArray) (hs : s = ⟨(Lib.itoa n).toArray⟩) (w : World) (hT : Lib.TabIs Tryd.prog w "internal/strconv.uint64pow10" .u64 Lib.pow10Tab) :
    Calls Tryd.prog 35 #[.int .i64 n] w fun e w' => e = .returned (.string s) ∧ Below w.heap.size w w' := by
  have cI := Tryd.strconv_Itoa n h0 h1 w hT
  rw [← hs] at cI
  clear hs hT
  go_enter Tryd.func35, Tryd.ntmps35
  go_wp2_with (first | (go_at_call 44; refine cI.mono ?_; rintro e w1 ⟨rfl, k, os, hw⟩; have HB1 := Aside0.mk (show Below w.heap.size w w1 by rw [hw]; exact Lib.below_grow _ w (Nat.le_refl _) k os); clear hw))
  go_ret
  exact ⟨rfl, HB1.out⟩
/-- What impl.readDecimal reads. -/
def numT (t : ByteArray) : Option Int := match Go.Lib.atoiAll t.data.toList with
  | .ok n => if (⟨(Go.Lib.itoa n).toArray⟩ : ByteArray).toList = t.toList ∧ (Go.Lib.trimPrefix t.data.toList [45]).length ≤ 18 then some n else none
  | _ => none
def IsErr (w : World) (name : String) : Prop := ∃ tp p, w.var? Tryd.prog name = some #[.iface tp p]
theorem err_below {name : String} {w w' : World} (h : IsErr w name) (hb : Below w.heap.size w w') : IsErr w' name := by
  obtain ⟨tp, p, h⟩ := h
  refine ⟨tp, p, ?_⟩
  unfold World.var? at h ⊢
  cases hg : Tryd.prog.globalNamed name with
  | none => simp [hg] at h
  | some g =>
    simp only [hg, Option.bind_some] at h ⊢
    have hlt : g < w.heap.size := by
      rcases Nat.lt_or_ge g w.heap.size with h' | h'
      · exact h'
      · simp [Array.getElem?_eq_none h'] at h
    rw [hb.block g hlt]
    exact h
theorem below_bytesW (B : Nat) (w : World) (e : TypeId) (s : ByteArray) (h : B ≤ w.heap.size) : Below B w (Go.Lib.bytesWorld w e s) :=
  ⟨rfl, rfl, rfl, by rw [Go.Lib.bytesWorld_size]; omega, fun k hk => Go.Lib.bytesWorld_at_old w e s k (by omega)⟩
/-- strconv.Atoi on all its roads. -/
theorem atoi_calls (s : ByteArray) (hs : s.size ≤ 281474976710656) (w : World) (h1 : IsErr w "strconv.ErrSyntax") (h2 : IsErr w "strconv.ErrRange") :
    Calls Tryd.prog 34 #[.string s] w fun e w' => (∃ (v : Int) (ev : Value), e = .returned (.tuple #[.int .i64 v, ev]) ∧ ((Go.Lib.atoiAll s.data.toList = .ok v ∧ ev = .nilIface) ∨ ((∀ n, Go.Lib.atoiAll s.data.toList ≠ .ok n) ∧ ∃ t N, ev = .iface t (.pointer (some ⟨N, 0, none⟩))))) ∧ Below w.heap.size w w' := by
  cases h : Go.Lib.atoiAll s.data.toList with
  | ok v =>
    refine (Any.strconv_Atoi_ok Tryd.layAtoi s (by omega) v h w).mono ?_
    rintro e w' ⟨rfl, hw⟩
    refine ⟨⟨v, _, rfl, .inl ⟨rfl, rfl⟩⟩, ?_⟩
    rcases hw with rfl | ⟨t, rfl⟩
    · exact Below.refl _ _
    · exact below_bytesW _ w _ t (Nat.le_refl _)
  | «syntax» =>
    obtain ⟨tp, p, hv⟩ := h1
    refine (Any.strconv_Atoi_syntax_var Tryd.layAtoi s hs h tp p w hv).mono ?_
    rintro e w' ⟨N, rfl, _, _, hb⟩
    exact ⟨⟨_, _, rfl, .inr ⟨(by intro n e; cases e), _, _, rfl⟩⟩, hb⟩
  | range =>
    obtain ⟨tp, p, hv⟩ := h2
    refine (Any.strconv_Atoi_range_var Tryd.layAtoi s hs h tp p w hv).mono ?_
    rintro e w' ⟨N, rfl, _, _, hb⟩
    exact ⟨⟨_, _, rfl, .inr ⟨(by intro n e; cases e), _, _, rfl⟩⟩, hb⟩

theorem trim_len (t : ByteArray) : ((⟨(Go.Lib.trimPrefix t.data.toList [45]).toArray⟩ : ByteArray).size : Int) = ((Go.Lib.trimPrefix t.data.toList [45]).length : Int) := rfl
set_option maxHeartbeats 4000000 in
theorem readDecimal_calls (t : ByteArray) (hs : t.size ≤ 281474976710656) (w : World) (hT : Lib.TabIs Tryd.prog w "internal/strconv.uint64pow10" .u64 Lib.pow10Tab) (h1 : IsErr w "strconv.ErrSyntax") (h2 : IsErr w "strconv.ErrRange") :
    Calls Tryd.prog 20 #[.string t] w fun e w' => (∃ (n : Int) (b : Bool), e = .returned (.tuple #[.int .i64 n, .bool b]) ∧ (b = true → numT t = some n) ∧ (b = false → numT t = none)) ∧ Below w.heap.size w w' := by
  have HA := Aside0.mk (atoi_calls t hs w h1 h2)
  have HT := Aside0.mk hT
  clear h1 h2 hT
  go_enter Tryd.func20, Tryd.ntmps20
  go_upto_region 2 with (first | (go_at_call 34; refine HA.out.mono ?_; rintro e w1 ⟨⟨v, ev, rfl, hv⟩, hb⟩; have HV := Aside0.mk hv; have HB := Aside0.mk hb; clear hv hb))
  rcases HV.out with ⟨hok, hev⟩ | ⟨hno, t0, N, hev⟩
  · subst hev
    obtain ⟨b0, b1⟩ := Go.Lib.atoiAll_bounds hok
    have HN := Aside0.mk (show numT t = if (⟨(Go.Lib.itoa v).toArray⟩ : ByteArray).toList = t.toList ∧ (Go.Lib.trimPrefix t.data.toList [45]).length ≤ 18 then some v else none by unfold numT; rw [hok])
    obtain ⟨s, hs2⟩ : ∃ s : ByteArray, s = ⟨(Go.Lib.itoa v).toArray⟩ := ⟨_, rfl⟩
    have HS := Aside0.mk hs2
    have HD := Aside0.mk (decimal_calls v b0 b1 s hs2 w1 (tab_below HT.out HB.out))
    clear hok hs2 b0 b1
    by_cases c1 : s.toList = t.toList
    · have c1b : (s.toList == t.toList) = true := by simpa using c1
      have C1 := Aside0.mk c1
      clear c1
      go_wp2_with (first | (go_at_call 35; refine HD.out.mono ?_; rintro e w2 ⟨rfl, hb⟩; have HB2 := Aside0.mk (below_step HB.out hb); clear hb) | (go_at_call 36; refine (Tryd.strings_TrimPrefix t ⟨#[45]⟩ _).mono ?_; rintro e w3 ⟨rfl, rfl⟩))
      go_ret2
      exact ⟨⟨v, decide (((Go.Lib.trimPrefix t.data.toList [45]).length : Int) ≤ 18), rfl, fun h => (by rw [HN.out, ← HS.out, if_pos ⟨C1.out, (by have := of_decide_eq_true h; omega)⟩]), fun h => (by rw [HN.out, ← HS.out, if_neg (fun q => by have := of_decide_eq_false h; omega)])⟩, HB2.out⟩
    · have c1b : (s.toList == t.toList) = false := by simpa using c1
      have HF := Aside0.mk (show numT t = none by rw [HN.out, ← HS.out, if_neg (fun h => c1 h.1)])
      clear c1
      go_wp2_with (first | (go_at_call 35; refine HD.out.mono ?_; rintro e w2 ⟨rfl, hb⟩; have HB2 := Aside0.mk (below_step HB.out hb); clear hb) | (go_at_call 36; refine (Tryd.strings_TrimPrefix t ⟨#[45]⟩ _).mono ?_; rintro e w3 ⟨rfl, rfl⟩))
      go_ret2
      exact ⟨⟨v, false, rfl, fun h => (by cases h), fun _ => HF.out⟩, HB2.out⟩
  · subst hev
    have HF := Aside0.mk (show numT t = none by
      unfold numT
      split
      · rename_i n h; exact absurd h (hno n)
      · rfl)
    clear hno
    go_wp2
    go_ret2
    exact ⟨⟨v, false, rfl, fun h => (by cases h), fun _ => HF.out⟩, HB.out⟩
theorem itoa_digits (n : Int) : (n < 0 ∧ Go.Lib.itoa n = 45 :: Go.Lib.decDigits n.natAbs ∧ 1 ≤ n.natAbs) ∨ (0 ≤ n ∧ Go.Lib.itoa n = Go.Lib.decDigits n.toNat) := by
  unfold Go.Lib.itoa
  by_cases h : n < 0
  · exact .inl ⟨h, by rw [if_pos h], by omega⟩
  · exact .inr ⟨by omega, by rw [if_neg h]⟩
theorem dec_head (u : Nat) : ∃ c r, Go.Lib.decDigits u = c :: r ∧ 48 ≤ c.toNat ∧ c.toNat ≤ 57 ∧ (c = 48 → u = 0) := by
  obtain ⟨_, h, h1, h2, h3, h4⟩ := dec_fwd u u (Nat.le_refl _)
  cases hq : Go.Lib.decDigits u with
  | nil => rw [hq] at h1; cases h1
  | cons c r =>
    rw [hq] at h1
    obtain rfl := Option.some.inj h1
    exact ⟨_, r, rfl, h2, h3, h4⟩
theorem decNat_dec (u : Nat) : Go.Lib.decNat (Go.Lib.decDigits u) = some u := by
  obtain ⟨c, r, h, _⟩ := dec_head u
  unfold Go.Lib.decNat
  rw [if_neg (by rw [h]; simp)]
  exact (dec_fwd u u (Nat.le_refl _)).1
theorem trim_itoa (n : Int) : Go.Lib.trimPrefix (Go.Lib.itoa n) [45] = if n < 0 then Go.Lib.decDigits n.natAbs else Go.Lib.decDigits n.toNat := by
  rcases itoa_digits n with ⟨h, e, _⟩ | ⟨h, e⟩
  · rw [e, if_pos h]
    rfl
  · obtain ⟨c, r, e2, h1, h2, _⟩ := dec_head n.toNat
    rw [e, if_neg (by omega), e2]
    unfold Go.Lib.trimPrefix
    rw [if_neg]
    intro q
    have hc : ¬ ((45 : UInt8) == c) = true := fun q => by
      have q2 := beq_iff_eq.1 q
      have e45 : (45 : UInt8).toNat = 45 := rfl
      rw [← q2] at h1
      omega
    simp [Go.Lib.hasPrefix, List.isPrefixOf] at q
    exact hc (by simpa using q)
theorem atoi_itoa (n : Int) (h : (Go.Lib.trimPrefix (Go.Lib.itoa n) [45]).length ≤ 18) : Go.Lib.atoiAll (Go.Lib.itoa n) = .ok n := by
  rw [trim_itoa] at h
  rcases itoa_digits n with ⟨h0, e, _⟩ | ⟨h0, e⟩
  · rw [if_pos h0] at h
    rw [e, Go.Lib.atoiAll_minus, Go.Lib.signed_short h, decNat_dec]
    show Go.Lib.NumEnd.ok (-(n.natAbs : Int)) = _
    congr 1
    omega
  · rw [if_neg (by omega)] at h
    obtain ⟨c, r, e2, h1, h2, _⟩ := dec_head n.toNat
    have hd := decNat_dec n.toNat
    rw [e2] at hd h
    rw [e, e2, Go.Lib.atoiAll_plain c r (by omega) (by omega), Go.Lib.signless_short h, hd]
    show Go.Lib.NumEnd.ok (n.toNat : Int) = _
    congr 1
    omega
theorem numT_of (t : ByteArray) (n : Int) (h : Go.Lib.itoa n = t.data.toList) (hl : (Go.Lib.trimPrefix t.data.toList [45]).length ≤ 18) : numT t = some n := by
  unfold numT
  have ha := atoi_itoa n (by rw [h]; exact hl)
  rw [h] at ha
  rw [ha]
  show (if _ then some n else none) = some n
  rw [if_pos]
  refine ⟨?_, hl⟩
  rw [ByteArray.toList_eq, ByteArray.toList_eq, ← h]
theorem numT_some (t : ByteArray) (n : Int) (h : numT t = some n) : Go.Lib.itoa n = t.data.toList ∧ (Go.Lib.trimPrefix t.data.toList [45]).length ≤ 18 := by
  unfold numT at h
  split at h
  · split at h
    · rename_i q
      obtain rfl := Option.some.inj h
      refine ⟨?_, q.2⟩
      have := q.1
      rw [ByteArray.toList_eq, ByteArray.toList_eq] at this
      simpa using this
    · cases h
  · cases h
/-- spec.l00Number reads what impl.readDecimal reads. -/
theorem spec_num (t : ByteArray) (k : Nat) (hk : 50 ≤ k) : spec_l00Number.f k t = some (match numT t with | some n => (n, true) | none => (0, false)) := by
  have hno : ∀ {p : Prop}, (∀ n, numT t = some n → False) → numT t = none := fun h => by
    cases hq : numT t with
    | none => rfl
    | some n => exact (h n hq).elim
  rw [num_f t k (by omega)]
  split
  · rename_i r h
    have hx := ext1 t 45 r h
    have hxs : (t.extract 1 t.size).size = r.length := by rw [← hx]; simp
    rw [num_j1 _ _ (k - 1) (by omega), hx, hxs]
    have htr : Go.Lib.trimPrefix t.data.toList [45] = r := by rw [h]; rfl
    have key : ∀ n, numT t = some n → r = Go.Lib.decDigits n.natAbs ∧ 1 ≤ n.natAbs ∧ r.length ≤ 18 := by
      intro n hn
      obtain ⟨e, hl⟩ := numT_some t n hn
      rw [htr] at hl
      rcases itoa_digits n with ⟨h0, e2, h1⟩ | ⟨h0, e2⟩
      · rw [e2, h] at e
        exact ⟨(List.cons.inj e).2.symm, h1, hl⟩
      · obtain ⟨c, r2, e3, h1, h2, _⟩ := dec_head n.toNat
        rw [e2, e3, h] at e
        have := (List.cons.inj e).1
        subst this
        exact absurd h1 (by decide)
    by_cases c : r = [] ∨ 18 < r.length ∨ (r.head? = some 48 ∧ (1 < r.length ∨ (-1 : Int) < 0))
    · rw [if_pos c, show numT t = none from hno (p := True) (fun n hn => by
        obtain ⟨e, h1, hl⟩ := key n hn
        obtain ⟨c0, r2, e3, q1, q2, q3⟩ := dec_head n.natAbs
        rw [e3] at e
        subst e
        rcases c with c | c | ⟨c, _⟩
        · cases c
        · omega
        · have := q3 (Option.some.inj c)
          omega)]
    · rw [if_neg c]
      have c1 : r ≠ [] := fun e => c (.inl e)
      have c2 : r.length ≤ 18 := Nat.le_of_not_lt fun e => c (.inr (.inl e))
      have c3 : r.head? ≠ some 48 := fun e => c (.inr (.inr ⟨e, .inr (by decide)⟩))
      cases hd : Go.Lib.decFrom 0 r with
      | none =>
        rw [show numT t = none from hno (p := True) (fun n hn => by
          obtain ⟨e, h1, hl⟩ := key n hn
          rw [e, (dec_fwd _ _ (Nat.le_refl _)).1] at hd
          cases hd)]
      | some m =>
        obtain ⟨e1, e2⟩ := dec_back r.length r m rfl hd c1 (fun e => absurd e c3)
        have hm1 := e2 c3
        have hlt := dec_lt r 0 m 0 (by decide) hd
        have h18 : m < 1000000000000000000 := Nat.lt_of_lt_of_le hlt (Nat.pow_le_pow_right (by decide) c2)
        have hw : wrap64 (-1 * (m : Int)) = -(m : Int) := by clear hlt; unfold wrap64; omega
        rw [numT_of t (-(m : Int)) (by rw [Go.Lib.itoa_neg m hm1, e1, h]) (by rw [htr]; exact c2)]
        show some (wrap64 (-1 * (m : Int)), true) = _
        rw [hw]
  · rename_i hn45
    rw [num_j1 _ _ (k - 1) (by omega)]
    have hlen : t.data.toList.length = t.size := by simp
    rw [← hlen]
    have h45 : t.data.toList.head? ≠ some 45 := by
      intro e
      cases hq : t.data.toList with
      | nil => rw [hq] at e; cases e
      | cons c r =>
        rw [hq] at e
        obtain rfl := Option.some.inj e
        exact hn45 r hq
    have htr : Go.Lib.trimPrefix t.data.toList [45] = t.data.toList := by
      unfold Go.Lib.trimPrefix
      rw [if_neg]
      intro q
      cases hq : t.data.toList with
      | nil => rw [hq] at q; cases q
      | cons c r =>
        rw [hq] at q h45
        have : (45 == c) = true := by simpa [Go.Lib.hasPrefix, List.isPrefixOf] using q
        exact h45 (by rw [← beq_iff_eq.1 this]; rfl)
    have key : ∀ n, numT t = some n → t.data.toList = Go.Lib.decDigits n.toNat ∧ 0 ≤ n ∧ t.data.toList.length ≤ 18 := by
      intro n hn
      obtain ⟨e, hl⟩ := numT_some t n hn
      rw [htr] at hl
      rcases itoa_digits n with ⟨h0, e2, h1⟩ | ⟨h0, e2⟩
      · rw [e2] at e
        exact (h45 (by rw [← e]; rfl)).elim
      · exact ⟨by rw [← e, e2], h0, hl⟩
    by_cases c : t.data.toList = [] ∨ 18 < t.data.toList.length ∨ (t.data.toList.head? = some 48 ∧ (1 < t.data.toList.length ∨ (1 : Int) < 0))
    · rw [if_pos c, show numT t = none from hno (p := True) (fun n hn => by
        obtain ⟨e, h1, hl⟩ := key n hn
        obtain ⟨c0, r2, e3, q1, q2, q3⟩ := dec_head n.toNat
        rcases c with c | c | ⟨c, c4⟩
        · rw [e, e3] at c; cases c
        · omega
        · have c' := c
          rw [e, e3] at c
          have hz := q3 (Option.some.inj c)
          rw [e, hz, Go.Lib.decDigits_one (by decide)] at c4
          rcases c4 with c4 | c4
          · simp at c4
          · exact absurd c4 (by decide))]
    · rw [if_neg c]
      have c1 : t.data.toList ≠ [] := fun e => c (.inl e)
      have c2 : t.data.toList.length ≤ 18 := Nat.le_of_not_lt fun e => c (.inr (.inl e))
      have c3 : t.data.toList.head? = some 48 → t.data.toList.length = 1 := fun e => by
        have h1 := List.length_pos_iff.2 c1
        have : ¬ 1 < t.data.toList.length := fun q => c (.inr (.inr ⟨e, .inl q⟩))
        omega
      cases hd : Go.Lib.decFrom 0 t.data.toList with
      | none =>
        rw [show numT t = none from hno (p := True) (fun n hn => by
          obtain ⟨e, h1, hl⟩ := key n hn
          rw [e, (dec_fwd _ _ (Nat.le_refl _)).1] at hd
          cases hd)]
      | some m =>
        obtain ⟨e1, e2⟩ := dec_back t.data.toList.length t.data.toList m rfl hd c1 c3
        have hlt := dec_lt t.data.toList 0 m 0 (by decide) hd
        have h18 : m < 1000000000000000000 := Nat.lt_of_lt_of_le hlt (Nat.pow_le_pow_right (by decide) c2)
        have hw : wrap64 (1 * (m : Int)) = (m : Int) := by clear hlt; unfold wrap64; omega
        rw [numT_of t (m : Int) (by rw [Go.Lib.itoa_nonneg m, e1]) (by rw [htr]; exact c2)]
        show some (wrap64 (1 * (m : Int)), true) = _
        rw [hw]
theorem wk_one (x : List UInt8) (h : ∀ c ∈ x, c ≠ 32) (hne : x ≠ []) : wk [] x = [x] := by
  have := wk_run x [] [] h
  rw [List.append_nil, List.nil_append] at this
  rw [this, wk, if_neg hne]
theorem wk_two (x s : List UInt8) (h : ∀ c ∈ x, c ≠ 32) (hne : x ≠ []) (hs : ∀ c ∈ s, c ≠ 32) (hse : s ≠ []) : wk [] (x ++ (32 :: s)) = [x, s] := by
  rw [wk_run x [] _ h, List.nil_append, wk, if_pos rfl, if_neg hne, wk_one s hs hse]
  rfl
theorem dec_nosp (n : Nat) : ∀ u : Nat, u ≤ n → ∀ c ∈ Go.Lib.decDigits u, c ≠ 32 := by
  induction n with
  | zero =>
    intro u hu c hc
    obtain rfl : u = 0 := by omega
    rw [Go.Lib.decDigits_one (by decide)] at hc
    obtain rfl := List.mem_singleton.1 hc
    decide
  | succ n ih =>
    intro u hu c hc
    have hd : ∀ v, v < 10 → UInt8.ofNat (48 + v) ≠ 32 := by
      intro v hv e
      have := congrArg UInt8.toNat e
      rw [UInt8.toNat_ofNat'] at this
      have e32 : (32 : UInt8).toNat = 32 := rfl
      omega
    rw [Go.Lib.decDigits] at hc
    split at hc
    · rename_i h
      obtain rfl := List.mem_singleton.1 hc
      exact hd u h
    · rcases List.mem_append.1 hc with hc | hc
      · exact ih (u / 10) (by omega) c hc
      · obtain rfl := List.mem_singleton.1 hc
        exact hd _ (by omega)
theorem itoa_nosp (n : Int) : (∀ c ∈ Go.Lib.itoa n, c ≠ 32) ∧ Go.Lib.itoa n ≠ [] := by
  rcases itoa_digits n with ⟨h, e, _⟩ | ⟨h, e⟩
  · rw [e]
    refine ⟨fun c hc => ?_, by simp⟩
    rcases List.mem_cons.1 hc with rfl | hc
    · decide
    · exact dec_nosp _ _ (Nat.le_refl _) c hc
  · rw [e]
    refine ⟨dec_nosp _ _ (Nat.le_refl _), ?_⟩
    obtain ⟨c, r, e2, _⟩ := dec_head n.toNat
    rw [e2]
    simp
/-- Two rows of words are the same. -/
theorem same_from (a b : List ByteArray) (hl : a.length = b.length) (h1000 : a.length ≤ 1000) : ∀ (d k i : Nat), a.length - i ≤ d → d < k → i ≤ a.length → spec_l00SameTexts.l0 k a b (i : Int) = some (decide (a.drop i = b.drop i)) := by
  intro d
  induction d with
  | zero =>
    intro k i hd hk hi
    obtain ⟨k, rfl⟩ : ∃ m, k = m + 1 := ⟨k - 1, by omega⟩
    rw [spec_l00SameTexts.l0, if_neg (by omega), List.drop_of_length_le (by omega), List.drop_of_length_le (by omega)]
    rfl
  | succ d ih =>
    intro k i hd hk hi
    obtain ⟨k, rfl⟩ : ∃ m, k = m + 1 := ⟨k - 1, by omega⟩
    by_cases h : i < a.length
    · have hw : wrap64 ((i : Int) + 1) = ((i + 1 : Nat) : Int) := by unfold wrap64; omega
      have ea : rdOf ByteArray.empty a (i : Int) = a[i] := by
        show a.getD i ByteArray.empty = _
        simp [List.getD_eq_getElem?_getD, h]
      have eb : rdOf ByteArray.empty b (i : Int) = b[i]'(by omega) := by
        show b.getD i ByteArray.empty = _
        simp [List.getD_eq_getElem?_getD, show i < b.length by omega]
      rw [spec_l00SameTexts.l0, if_pos (by omega), if_pos (by omega), if_pos (by omega), ea, eb, hw, ih k (i + 1) (by omega) (by omega) (by omega), List.drop_eq_getElem_cons h, List.drop_eq_getElem_cons (show i < b.length by omega)]
      by_cases q : (a[i]).toList = (b[i]'(by omega)).toList
      · have q2 : a[i] = b[i]'(by omega) := by
          rw [ByteArray.toList_eq, ByteArray.toList_eq] at q
          exact ByteArray.ext (Array.toList_inj.mp q)
        rw [if_pos q, q2]
        congr 1
        exact decide_eq_decide.2 ⟨fun e => by rw [e], fun e => (List.cons.inj e).2⟩
      · rw [if_neg q]
        have : a[i] ≠ b[i]'(by omega) := fun e => q (by rw [e])
        congr 1
        symm
        exact decide_eq_false fun e => this (List.cons.inj e).1
    · rw [spec_l00SameTexts.l0, if_neg (by omega), List.drop_of_length_le (by omega), List.drop_of_length_le (by omega)]
      rfl
theorem same_texts (a b : List ByteArray) (h1000 : a.length ≤ 1000) (k : Nat) (hk : a.length < k) : spec_l00SameTexts.f k a b = some (decide (a = b)) := by
  unfold spec_l00SameTexts.f
  by_cases h : a.length = b.length
  · rw [if_pos (by omega)]
    have := same_from a b h h1000 a.length k 0 (by omega) hk (Nat.zero_le _)
    simpa using this
  · rw [if_neg (by omega)]
    congr 1
    symm
    exact decide_eq_false fun e => h (by rw [e])
theorem within_eq (a lo hi : Int) : impl_within.f a lo hi = some (decide (lo ≤ a ∧ a ≤ hi)) := by
  unfold impl_within.f
  by_cases h : a ≥ lo
  · have h' : lo ≤ a := h
    simp [h, h']
  · have h' : ¬ lo ≤ a := h
    simp [h, h']
theorem l01In_eq (a lo hi : Int) : spec_l01In.f a lo hi = some (decide (lo ≤ a ∧ a ≤ hi)) := by
  unfold spec_l01In.f
  by_cases h : a ≥ lo
  · have h' : lo ≤ a := h
    simp [h, h']
  · have h' : ¬ lo ≤ a := h
    simp [h, h']
theorem has_j2 (k : Nat) (a : Int) (b : Bool) : spec_l02Has.j2 k a b = impl_rangeOf.j2 k a b := by
  cases k <;> simp only [spec_l02Has.j2, impl_rangeOf.j2]
theorem has_j1 (k : Nat) (a : Int) (b : Bool) : spec_l02Has.j1 k a b = impl_rangeOf.j1 k a b := by
  cases k <;> simp only [spec_l02Has.j1, impl_rangeOf.j1, has_j2]
theorem has_j0 (k : Nat) (a : Int) (b : Bool) : spec_l02Has.j0 k a b = impl_rangeOf.j0 k a b := by
  cases k <;> simp only [spec_l02Has.j0, impl_rangeOf.j0, has_j1]
theorem has_same (k : Nat) (a : Int) : spec_l02Has.f k a = impl_rangeOf.f k a := by
  unfold spec_l02Has.f impl_rangeOf.f
  simp only [has_j0]
/-- The range of an operation's operand, and whether it has one. -/
def rng (a : Int) : Int × Int × Bool :=
  if a = 1 then (-2147483648, 2147483647, true) else if a = 2 then (0, 1, true) else if a = 3 ∨ a = 4 then (0, 15, true) else if a = 5 ∨ a = 6 ∨ a = 7 ∨ a = 8 then (0, 7, true)
  else if a = 19 ∨ a = 20 then (0, 7, true) else if a = 24 then (1, 20, true) else if a = 26 then (0, 5, true) else (0, 0, false)
theorem range_eq (k : Nat) (hk : 3 ≤ k) (a : Int) : impl_rangeOf.f k a = some (rng a) := by
  obtain ⟨k, rfl⟩ : ∃ m, k = m + 3 := ⟨k - 3, by omega⟩
  unfold impl_rangeOf.f rng
  simp only [impl_rangeOf.j0, impl_rangeOf.j1, impl_rangeOf.j2]
  by_cases h1 : a = 1
  · subst h1; rfl
  by_cases h2 : a = 2
  · subst h2; rfl
  by_cases h3 : a = 3
  · subst h3; rfl
  by_cases h4 : a = 4
  · subst h4; rfl
  by_cases h5 : a = 5
  · subst h5; rfl
  by_cases h6 : a = 6
  · subst h6; rfl
  by_cases h7 : a = 7
  · subst h7; rfl
  by_cases h8 : a = 8
  · subst h8; rfl
  by_cases h19 : a = 19
  · subst h19; rfl
  by_cases h20 : a = 20
  · subst h20; rfl
  by_cases h24 : a = 24
  · subst h24; rfl
  by_cases h26 : a = 26
  · subst h26; rfl
  simp [h1, h2, h3, h4, h5, h6, h7, h8, h19, h20, h24, h26]
def instrb (op a : Int) : Bool := decide ((1 ≤ op ∧ op ≤ 26) ∧ ((rng op).1 ≤ a ∧ a ≤ (rng op).2.1))
theorem isOp_eq (a : Int) : impl_isOp.f a = some (decide (1 ≤ a ∧ a ≤ 26)) := by
  unfold impl_isOp.f; rw [within_eq]; rfl
theorem l02Op_eq (a : Int) : spec_l02Op.f a = some (decide (1 ≤ a ∧ a ≤ 26)) := by
  unfold spec_l02Op.f; rw [l01In_eq]; rfl
theorem spec_instr (k : Nat) (hk : 3 ≤ k) (op a : Int) : spec_l02OK.f k op a = some (instrb op a) := by
  unfold spec_l02OK.f instrb
  simp only [l02Op_eq, l01In_eq, has_same, range_eq k hk, Option.bind_some]
  by_cases h : 1 ≤ op ∧ op ≤ 26 <;> simp [h]
theorem impl_instr (k : Nat) (hk : 3 ≤ k) (op a : Int) : impl_InstrOK.f k op a = some (instrb op a) := by
  unfold impl_InstrOK.f instrb
  simp only [isOp_eq, within_eq, range_eq k hk, Option.bind_some]
  by_cases h : 1 ≤ op ∧ op ≤ 26 <;> simp [h]
theorem decDigits_len (u : Nat) (h : u < 18446744073709551616) : (Lib.decDigits u).length ≤ 20 := by rw [Lib.decDigits_length]; exact Lib.nDigits_le20 u h
theorem str1 (v : Nat) (h : v < 10) : strOfNums [(wrap64 (48 + (v : Int))) % 256] = ⟨#[UInt8.ofNat (48 + v)]⟩ := by
  have hw : wrap64 (48 + (v : Int)) = ((48 + v : Nat) : Int) := by unfold wrap64; omega
  rw [hw]
  unfold strOfNums
  have e : (((48 + v : Nat) : Int) % 256).toNat = 48 + v := by omega
  simp only [List.map_cons, List.map_nil, e]
theorem digits_nat : ∀ (k u : Nat), u < 10 ^ k → u ≤ 4611686018427387904 → 1 ≤ k → spec_l00Digits.f k (u : Int) = some ⟨(Lib.decDigits u).toArray⟩ := by
  intro k
  induction k with
  | zero => intro u _ _ h; omega
  | succ k ih =>
    intro u hu hb _
    have n1 : ¬ (u : Int) = -9223372036854775808 := by omega
    have n2 : ¬ (u : Int) < 0 := by omega
    simp only [spec_l00Digits.f, if_neg n1, if_neg n2]
    by_cases h : u < 10
    · rw [if_pos (by omega), str1 u h, Lib.decDigits_one h]
    · have hk : 1 ≤ k := by
        rcases Nat.eq_zero_or_pos k with h0 | h0
        · subst h0; simp at hu; omega
        · exact h0
      have hu2 : u / 10 < 10 ^ k := by
        rw [Nat.pow_succ] at hu
        omega
      have ht : Int.tdiv (u : Int) 10 = ((u / 10 : Nat) : Int) := by rw [Int.tdiv_eq_ediv_of_nonneg (by omega)]; omega
      have hm : Int.tmod (u : Int) 10 = ((u % 10 : Nat) : Int) := by rw [Int.tmod_eq_emod_of_nonneg (by omega)]; omega
      have hw : wrap64 (((u / 10 : Nat) : Int)) = ((u / 10 : Nat) : Int) := by unfold wrap64; omega
      have hs : Lib.decDigits u = Lib.decDigits (u / 10) ++ [UInt8.ofNat (48 + u % 10)] := by rw [Lib.decDigits, dif_neg h]
      have hl := decDigits_len (u / 10) (by omega)
      rw [if_neg (by omega), ht, hm, hw, ih (u / 10) hu2 (by omega) hk]
      simp only [Option.bind_some]
      rw [str1 (u % 10) (by omega), if_pos (by
        have e1 : (⟨(Lib.decDigits (u / 10)).toArray⟩ : ByteArray).size = (Lib.decDigits (u / 10)).length := by simp [ByteArray.size]
        have e2 : (⟨#[UInt8.ofNat (48 + u % 10)]⟩ : ByteArray).size = 1 := rfl
        omega), hs]
      congr 1
      try (apply ByteArray.ext; simp)
theorem digits_int (n : Int) (h0 : -4611686018427387904 ≤ n) (h1 : n ≤ 4611686018427387904) (k : Nat) (hk : 25 ≤ k) : spec_l00Digits.f k n = some ⟨(Lib.itoa n).toArray⟩ := by
  by_cases h : n < 0
  · obtain ⟨k, rfl⟩ : ∃ m, k = m + 1 := ⟨k - 1, by omega⟩
    obtain ⟨u, rfl⟩ : ∃ u : Nat, n = -(u : Int) := ⟨n.natAbs, by omega⟩
    have n1 : ¬ -(u : Int) = -9223372036854775808 := by omega
    have hw : wrap64 (-(-(u : Int))) = (u : Int) := by unfold wrap64; omega
    have hp : u < 10 ^ k := Nat.lt_of_lt_of_le (show u < 10 ^ 20 by omega) (Nat.pow_le_pow_right (by omega) (by omega))
    have hl := decDigits_len u (by omega)
    simp only [spec_l00Digits.f, if_neg n1, if_pos h, hw]
    rw [digits_nat k u hp (by omega) (by omega)]
    simp only [Option.bind_some]
    rw [if_pos (by
      have e1 : (⟨(Lib.decDigits u).toArray⟩ : ByteArray).size = (Lib.decDigits u).length := by simp [ByteArray.size]
      omega), Lib.itoa_neg u (by omega)]
    congr 1
    try (apply ByteArray.ext; simp)
  · obtain ⟨u, rfl⟩ : ∃ u : Nat, n = (u : Int) := ⟨n.toNat, by omega⟩
    have hp : u < 10 ^ k := Nat.lt_of_lt_of_le (show u < 10 ^ 20 by omega) (Nat.pow_le_pow_right (by omega) (by omega))
    rw [digits_nat k u hp (by omega) (by omega), Lib.itoa_nonneg]
theorem itoa_size (n : Int) (h0 : -9223372036854775808 ≤ n) (h1 : n ≤ 9223372036854775807) : (⟨(Lib.itoa n).toArray⟩ : ByteArray).size ≤ 21 := by
  have := Lib.itoa_length_le n h0 h1
  simpa [ByteArray.size] using this
theorem specOpName (a : Int) : spec_OpName.f a = some (owAt a) := by
  have h1 : spec_l02Op.f a = some (decide (1 ≤ a ∧ a ≤ 26)) := by
    unfold spec_l02Op.f spec_l01In.f
    by_cases h0 : 1 ≤ a
    · rw [if_pos h0]; simp [h0]
    · rw [if_neg h0, decide_eq_false (fun h => h0 h.1)]; rfl
  have hlen : ow.length = 26 := by decide
  unfold spec_OpName.f
  rw [h1]
  simp only [Option.bind_some]
  unfold owAt
  by_cases h : 1 ≤ a ∧ a ≤ 26
  · have hw : wrap64 (a - 1) = a - 1 := by unfold wrap64; omega
    rw [decide_eq_true h, if_pos rfl, if_pos h, hw]
    change (if 0 ≤ a - 1 then (if a - 1 < (ow.length : Int) then some (rdOf ByteArray.empty ow (a - 1)) else none) else none) = _
    rw [if_pos (by omega), if_pos (by omega)]
    rfl
  · rw [decide_eq_false h, if_neg h]
    rfl
def itx (op : Int) (s : ByteArray) : ByteArray := if (rng op).2.2 = true then owAt op ++ (⟨#[32]⟩ ++ s) else owAt op
theorem owAt_size (a : Int) : (owAt a).size ≤ 10 := by
  unfold owAt
  split
  · rename_i h
    have hall : (ow.all fun x => decide (x.size ≤ 10)) = true := by decide +kernel
    rw [List.getD_eq_getElem?_getD]
    cases hx : ow[(a - 1).toNat]? with
    | none => show ByteArray.empty.size ≤ 10; decide
    | some x => exact of_decide_eq_true (List.all_eq_true.1 hall x (List.mem_of_getElem? hx))
  · simp [ByteArray.size]
theorem hasOp_f (op : Int) : impl_hasOperand.f 3 op = some (rng op).2.2 := by
  unfold impl_hasOperand.f
  rw [range_eq 3 (by omega)]
  rfl

theorem instrOK_f (op a : Int) (h : instrb op a = true) : -9223372036854775808 ≤ a ∧ a ≤ 9223372036854775807 ∧ -4611686018427387904 ≤ a ∧ a ≤ 4611686018427387904 := by
  unfold instrb at h
  have h2 := of_decide_eq_true h
  have hr : -2147483648 ≤ (rng op).1 ∧ (rng op).2.1 ≤ 2147483647 := by
    unfold rng
    repeat' split
    all_goals decide
  omega
theorem plc_hit : ∀ (ws : List ByteArray) (s : ByteArray) (i : Int) (j : Nat), plc ws s i = i + (j : Int) → 0 ≤ i → (ws.getD j ByteArray.empty).toList = s.toList
  | [], s, i, j, h, hi => by simp only [plc] at h; omega
  | x :: ws, s, i, j, h, hi => by
    simp only [plc] at h
    split at h
    · rename_i q
      obtain rfl : j = 0 := by omega
      exact q
    · cases j with
      | zero =>
        have := plc_range ws s (i + 1)
        omega
      | succ j =>
        have := plc_hit ws s (i + 1) j (by omega) (by omega)
        simpa using this
theorem specOfK (s : ByteArray) (k : Nat) (hk : 27 ≤ k) : spec_OpOf.f k s = some (plc ow s 0 + 1) := by
  have hlen : ow.length = 26 := by decide
  unfold spec_OpOf.f
  by_cases h : (s.size : Int) > 65536
  · rw [if_pos h, ow_long s (by omega)]; rfl
  · rw [if_neg h]
    have hp : spec_l02Place.f k ow s = some (plc ow s 0) := by
      unfold spec_l02Place.f
      have := place_from ow s (by omega) 26 k 0 (by omega) (by omega) (by omega)
      simpa using this
    change ((spec_l02Place.f k ow s).bind fun t108 => (some (wrap64 (t108 + 1)))) = _
    rw [hp]
    simp only [Option.bind_some]
    have := plc_range ow s 0
    have hw : wrap64 (plc ow s 0 + 1) = plc ow s 0 + 1 := by unfold wrap64; omega
    rw [hw]
theorem text_eq (op a : Int) (hb : instrb op a = true) (k : Nat) (hk : 40 ≤ k) : spec_l02Text.f k op a = some (itx op ⟨(Go.Lib.itoa a).toArray⟩) := by
  obtain ⟨b0, b1, b2, b3⟩ := instrOK_f op a hb
  have hz : (⟨(Go.Lib.itoa a).toArray⟩ : ByteArray).size ≤ 21 := itoa_size a b0 b1
  have hx := owAt_size op
  unfold spec_l02Text.f itx
  rw [has_same, range_eq k (by omega), specOpName]
  simp only [Option.bind_some]
  cases hr : (rng op).2.2
  · rfl
  · simp only [if_true]
    rw [if_pos (by omega), digits_int a b2 b3 k (by omega)]
    simp only [Option.bind_some]
    rw [if_pos (by rw [ByteArray.size_append]; have : (⟨#[32]⟩ : ByteArray).size = 1 := rfl; omega), ByteArray.append_assoc]
/-- What is read out of words. -/
def readW (ws : List ByteArray) : Int × Int × Bool :=
  if ws.length = 0 ∨ 2 < ws.length then (0, 0, false)
  else if ws.length = 2 then match numT (ws.getD 1 ByteArray.empty) with
    | none => (0, 0, false)
    | some n => if instrb (plc ow (ws.getD 0 ByteArray.empty) 0 + 1) n = true ∧ (rng (plc ow (ws.getD 0 ByteArray.empty) 0 + 1)).2.2 = true then (plc ow (ws.getD 0 ByteArray.empty) 0 + 1, n, true) else (0, 0, false)
  else if instrb (plc ow (ws.getD 0 ByteArray.empty) 0 + 1) 0 = true ∧ (rng (plc ow (ws.getD 0 ByteArray.empty) 0 + 1)).2.2 = false then (plc ow (ws.getD 0 ByteArray.empty) 0 + 1, 0, true) else (0, 0, false)

theorem ow_nosp (a : Int) (h : 1 ≤ a ∧ a ≤ 26) : (∀ c ∈ (owAt a).data.toList, c ≠ 32) ∧ (owAt a).data.toList ≠ [] := by
  have key : ∀ j : Nat, j < 26 → ((ow.getD j ByteArray.empty).data.toList.all fun c => decide (c ≠ 32)) = true ∧ (ow.getD j ByteArray.empty).data.toList.isEmpty = false := by decide +kernel
  have e : owAt a = ow.getD (a - 1).toNat ByteArray.empty := if_pos h
  obtain ⟨k1, k2⟩ := key (a - 1).toNat (by omega)
  rw [e]
  refine ⟨fun c hc => of_decide_eq_true (List.all_eq_true.1 k1 c hc), fun q => ?_⟩
  rw [q] at k2
  cases k2
theorem words_itx (op a : Int) (h : 1 ≤ op ∧ op ≤ 26) : wordsB (itx op ⟨(Go.Lib.itoa a).toArray⟩) = if (rng op).2.2 = true then [owAt op, ⟨(Go.Lib.itoa a).toArray⟩] else [owAt op] := by
  obtain ⟨h1, h2⟩ := ow_nosp op h
  obtain ⟨h3, h4⟩ := itoa_nosp a
  unfold wordsB itx
  by_cases c : (rng op).2.2 = true
  · rw [if_pos c, if_pos c]
    have e : (owAt op ++ ((⟨#[32]⟩ : ByteArray) ++ ⟨(Go.Lib.itoa a).toArray⟩)).data.toList = (owAt op).data.toList ++ (32 :: Go.Lib.itoa a) := by simp [ByteArray.data_append]
    rw [e, wk_two _ _ h1 h2 h3 h4]
    rfl
  · rw [if_neg c, if_neg c, wk_one _ h1 h2]
    rfl
theorem op_at (s : ByteArray) (h : 1 ≤ plc ow s 0 + 1) : owAt (plc ow s 0 + 1) = s := by
  have hlen : ow.length = 26 := by decide
  have hr := plc_range ow s 0
  have := plc_hit ow s 0 (plc ow s 0).toNat (by omega) (by omega)
  have e : owAt (plc ow s 0 + 1) = ow.getD (plc ow s 0 + 1 - 1).toNat ByteArray.empty := if_pos (by omega)
  rw [e, show plc ow s 0 + 1 - 1 = plc ow s 0 by omega]
  rw [ByteArray.toList_eq, ByteArray.toList_eq] at this
  exact ByteArray.ext (Array.toList_inj.mp this)
theorem read_j1 (ws : List ByteArray) (op a : Int) (k : Nat) (hk : 200 ≤ k) : spec_l02Read.j1 k ws op a = some (if instrb op a = true ∧ ws = (if (rng op).2.2 = true then [owAt op, ⟨(Go.Lib.itoa a).toArray⟩] else [owAt op]) then (op, a, true) else (0, 0, false)) := by
  obtain ⟨k, rfl⟩ : ∃ m, k = m + 1 := ⟨k - 1, by omega⟩
  rw [spec_l02Read.j1, spec_instr k (by omega)]
  simp only [Option.bind_some]
  by_cases hb : instrb op a = true
  · rw [if_pos hb, text_eq op a hb k (by omega)]
    simp only [Option.bind_some]
    obtain ⟨b0, b1, b2, b3⟩ := instrOK_f op a hb
    have hop : 1 ≤ op ∧ op ≤ 26 := (of_decide_eq_true hb).1
    have hz : (⟨(Go.Lib.itoa a).toArray⟩ : ByteArray).size ≤ 21 := itoa_size a b0 b1
    have hx := owAt_size op
    have hsz : (itx op ⟨(Go.Lib.itoa a).toArray⟩).size ≤ 40 := by
      unfold itx
      split
      · rw [ByteArray.size_append, ByteArray.size_append]
        have : (⟨#[32]⟩ : ByteArray).size = 1 := rfl
        omega
      · omega
    rw [spec_words _ (by omega) k (by omega)]
    simp only [Option.bind_some]
    rw [words_itx op a hop]
    have hl : (if (rng op).2.2 = true then [owAt op, (⟨(Go.Lib.itoa a).toArray⟩ : ByteArray)] else [owAt op]).length ≤ 2 := by split <;> simp
    rw [same_texts _ ws (by omega) k (by omega)]
    simp only [Option.bind_some, decide_eq_true_eq]
    by_cases q : (if (rng op).2.2 = true then [owAt op, (⟨(Go.Lib.itoa a).toArray⟩ : ByteArray)] else [owAt op]) = ws
    · rw [if_pos q, if_pos ⟨hb, q.symm⟩]
    · rw [if_neg q, if_neg (fun h => q h.2.symm)]
  · rw [if_neg hb, if_neg (fun h => hb h.1)]
theorem numT_itoa (t : ByteArray) (n : Int) (h : numT t = some n) : (⟨(Go.Lib.itoa n).toArray⟩ : ByteArray) = t := by
  have := (numT_some t n h).1
  apply ByteArray.ext
  show (Go.Lib.itoa n).toArray = t.data
  rw [this]
theorem read_j0 (ws : List ByteArray) (k : Nat) (hk : 300 ≤ k) : spec_l02Read.j0 k ws (decide (ws.length = 0 ∨ 2 < ws.length)) = some (readW ws) := by
  obtain ⟨k, rfl⟩ : ∃ m, k = m + 1 := ⟨k - 1, by omega⟩
  rw [spec_l02Read.j0]
  unfold readW
  by_cases h : ws.length = 0 ∨ 2 < ws.length
  · rw [decide_eq_true h, if_pos rfl, if_pos h]
  · rw [decide_eq_false h, if_neg (by decide), if_pos (by omega), if_neg h]
    have e0 : rdOf ByteArray.empty ws 0 = ws.getD 0 ByteArray.empty := rfl
    have e1 : rdOf ByteArray.empty ws 1 = ws.getD 1 ByteArray.empty := rfl
    rw [e0, e1, specOfK _ k (by omega)]
    simp only [Option.bind_some]
    by_cases h2 : ws.length = 2
    · rw [if_pos (by omega), if_pos (by omega), if_pos h2, spec_num _ k (by omega)]
      obtain ⟨w0, w1, rfl⟩ : ∃ w0 w1, ws = [w0, w1] := by
        match ws, h2 with
        | [a, b], _ => exact ⟨a, b, rfl⟩
      simp only [List.getD_cons_zero, List.getD_cons_succ]
      cases hn : numT w1 with
      | none => rfl
      | some n =>
        simp only [Option.bind_some, if_true]
        rw [read_j1 _ _ _ k (by omega), numT_itoa w1 n hn]
        congr 1
        by_cases hb : instrb (plc ow w0 0 + 1) n = true
        · have hop : 1 ≤ plc ow w0 0 + 1 ∧ plc ow w0 0 + 1 ≤ 26 := (of_decide_eq_true hb).1
          rw [op_at w0 hop.1]
          cases hr : (rng (plc ow w0 0 + 1)).2.2
          · rw [if_neg (fun h => by simpa using h.2), if_neg (fun h => by cases h.2)]
          · rw [if_pos ⟨hb, rfl⟩, if_pos ⟨hb, rfl⟩]
        · rw [if_neg (fun h => hb h.1), if_neg (fun h => hb h.1)]
    · rw [if_neg (by omega), if_neg h2]
      obtain ⟨w0, rfl⟩ : ∃ w0, ws = [w0] := by
        match ws, h, h2 with
        | [], h, _ => exact absurd (.inl rfl) h
        | [a], _, _ => exact ⟨a, rfl⟩
        | [a, b], _, h2 => exact absurd rfl h2
        | a :: b :: c :: r, h, _ => exact absurd (.inr (by simp)) h
      simp only [List.getD_cons_zero]
      rw [read_j1 _ _ _ k (by omega)]
      congr 1
      by_cases hb : instrb (plc ow w0 0 + 1) 0 = true
      · have hop : 1 ≤ plc ow w0 0 + 1 ∧ plc ow w0 0 + 1 ≤ 26 := (of_decide_eq_true hb).1
        rw [op_at w0 hop.1]
        cases hr : (rng (plc ow w0 0 + 1)).2.2
        · rw [if_pos ⟨hb, rfl⟩, if_pos ⟨hb, rfl⟩]
        · rw [if_neg (fun h => by simpa using h.2), if_neg (fun h => by cases h.2)]
      · rw [if_neg (fun h => hb h.1), if_neg (fun h => hb h.1)]
theorem spec_read (a : ByteArray) (ha : a.size ≤ 65536) (k : Nat) (hk : 2 * a.size + 300 ≤ k) : spec_l02Read.f k a = some (readW (wordsB a)) := by
  unfold spec_l02Read.f
  rw [spec_words a (by omega) k (by omega)]
  simp only [Option.bind_some]
  have h := read_j0 (wordsB a) k (by omega)
  by_cases c : (wordsB a).length = 0
  · rw [if_pos (by omega), ← h, decide_eq_true (.inl c)]
  · rw [if_neg (by omega), ← h]
    congr 1
    exact decide_eq_decide.2 ⟨fun q => .inr (by omega), fun q => by omega⟩
/-- What the law's two sides tell. -/
def riOf (a : ByteArray) : Int × Int × Int := if 65536 < a.size then (0, 0, 2) else if (readW (wordsB a)).2.2 = true then ((readW (wordsB a)).1, (readW (wordsB a)).2.1, 0) else (0, 0, 3)
theorem spec_ri (a : ByteArray) (k : Nat) (hk : 140000 ≤ k) : spec_ReadInstr.f k a = some (riOf a) := by
  unfold spec_ReadInstr.f riOf
  by_cases h : 65536 < a.size
  · rw [if_pos (by omega), if_pos h]
  · rw [if_neg (by omega), if_neg h, spec_read a (by omega) k (by omega)]
    simp only [Option.bind_some]
    split <;> rfl
/-! Boxes of one's own, all in one fact; and a region whose operations yield what they yield in whatever order. -/
def Bx (w0 w : World) (L : List (Nat × Array Value × Nat)) : Prop := Below w0.heap.size w0 w ∧ (∀ p ∈ L, w0.heap.size ≤ p.1 ∧ w.heap[p.1]? = some (.cells p.2.1 p.2.2 (0, 0))) ∧ L.Pairwise (fun p q => p.1 ≠ q.1)
section
variable {w0 w w1 : World} {L : List (Nat × Array Value × Nat)} {g t : Nat} {cs : Array Value}
theorem Bx.nil (w : World) : Bx w w [] := ⟨Below.refl _ _, fun p hp => (by cases hp), List.Pairwise.nil⟩
theorem Bx.below (h : Bx w0 w L) (hb : Below w.heap.size w w1) : Bx w0 w1 L := ⟨below_step h.1 hb, fun p hp => ⟨(h.2.1 p hp).1, blk_below (h.2.1 p hp).2 hb⟩, h.2.2⟩
theorem Bx.alloc (h : Bx w0 w L) (o : Obj) : Bx w0 (w.alloc o) L := h.below (below_alloc (Below.refl _ _) o)
theorem Bx.drew (h : Bx w0 w L) : Bx w0 w.drew L := h.below (below_drew (Below.refl _ _))
theorem Bx.drewN (h : Bx w0 w L) (n : Nat) : Bx w0 (w.drewN n) L := h.below (pw_below_drewN (Below.refl _ _) n)
theorem Bx.get (h : Bx w0 w L) (i : Nat) (hi : L[i]? = some (g, cs, t)) : w.heap[g]? = some (.cells cs t (0, 0)) := (h.2.1 _ (List.mem_of_getElem? hi)).2
theorem Bx.ge (h : Bx w0 w L) (i : Nat) (hi : L[i]? = some (g, cs, t)) : w0.heap.size ≤ g := (h.2.1 _ (List.mem_of_getElem? hi)).1
theorem Bx.new (h : Bx w0 w L) (hg : g = w.heap.size) (hb : w1.heap[g]? = some (.cells cs t (0, 0))) (hB : Below w.heap.size w w1) : Bx w0 w1 ((g, cs, t) :: L) :=
  ⟨below_step h.1 hB, fun p hp => by
    rcases List.mem_cons.1 hp with rfl | hp
    · exact ⟨by rw [show g = w.heap.size from hg]; exact h.1.size, hb⟩
    · exact ⟨(h.2.1 p hp).1, blk_below (h.2.1 p hp).2 hB⟩, List.pairwise_cons.2 ⟨fun q hq => by
    have := blk_lt (h.2.1 q hq).2
    show g ≠ q.1
    omega, h.2.2⟩⟩
theorem Bx.pop (h : Bx w0 w ((g, cs, t) :: L)) : Bx w0 w L := ⟨h.1, fun p hp => h.2.1 p (List.mem_cons_of_mem _ hp), (List.pairwise_cons.1 h.2.2).2⟩
theorem below_cells {g : Nat} (hg : w0.heap.size ≤ g) : ∀ (seg : List Value) (j : Nat) {w : World}, Below w0.heap.size w0 w → Below w0.heap.size w0 (w.setCells g j seg)
  | [], _, _, h => h
  | v :: r, j, w, h => by
    rw [World.setCells]
    exact below_cells hg r (j + 1) (below_set h hg)
theorem Bx.put {cs' : Array Value} {seg : List Value} (h : Bx w0 w L) (i : Nat) (hi : L[i]? = some (g, cs, t)) (j : Nat) (hj : j + seg.length ≤ cs.size) (he : cs'.toList = cs.toList.take j ++ seg ++ cs.toList.drop (j + seg.length)) :
    Bx w0 (w.setCells g j seg) (L.set i (g, cs', t)) := by
  have hb := h.get i hi
  obtain ⟨cur', h3, _, h5⟩ := setCells_row seg j w cs hb hj
  obtain rfl : cur' = cs' := by rw [← Array.toList_inj, h5, he]
  refine ⟨below_cells (h.ge i hi) seg j h.1, fun p hp => ?_, ?_⟩
  · obtain ⟨m, hm⟩ := List.getElem?_of_mem hp
    rw [List.getElem?_set] at hm
    by_cases c : i = m
    · subst c
      rw [if_pos rfl] at hm
      split at hm
      · cases hm
        exact ⟨h.ge i hi, h3⟩
      · cases hm
    · rw [if_neg c] at hm
      have hpm := h.2.1 p (List.mem_of_getElem? hm)
      refine ⟨hpm.1, (setCells_far seg j p.1 ?_).trans hpm.2⟩
      have hil := (List.getElem?_eq_some_iff.1 hi)
      have hml := (List.getElem?_eq_some_iff.1 hm)
      have hpw := List.pairwise_iff_getElem.1 h.2.2
      rcases Nat.lt_or_gt_of_ne c with c1 | c1
      · have := hpw i m hil.1 hml.1 c1
        rw [hil.2, hml.2] at this
        exact Ne.symm this
      · have := hpw m i hml.1 hil.1 c1
        rw [hil.2, hml.2] at this
        exact this
  · have hil := (List.getElem?_eq_some_iff.1 hi)
    refine List.pairwise_iff_getElem.2 (fun a b ha hb2 hab => ?_)
    rw [List.length_set] at ha hb2
    have := List.pairwise_iff_getElem.1 h.2.2 a b ha hb2 hab
    rw [List.getElem_set, List.getElem_set]
    split <;> split
    · omega
    · rename_i e _; subst e; rw [hil.2] at this; exact this
    · rename_i _ e; subst e; rw [hil.2] at this; exact this
    · exact this
/-- A struct is read whole. -/
theorem run_agg {P : Program} {d : TypeDesc} (ty : TypeId) (hb : w.heap[g]? = some (.cells cs t (0, 0))) (hu : P.underlying ty = some d) (hd : (match d with | .struct _ | .array _ _ => true | _ => false) = true) (hi : (P.info? ty).map (·.size) = some cs.size) :
    (Instr.loadAt ty (.pointer (some ⟨g, 0, none⟩))).run P w = .ok (.agg cs) w := by
  simp only [Instr.loadAt, Instr.sureAddr, Sem.run_bind, Sem.run_pure, Result.andThen_ok, run_loadVar_row w g t ty cs (0, 0) d hb hu hd hi]
end
section
variable {P : Program} {ops : Array Oper} {rest : List Oper} {o : Oper} {a : Act} {Q : Exit → Act → World → Prop} {w0 W : World} {L : List (Nat × Array Value × Nat)} {g t : Nat} {cs cs' : Array Value}
/-- A new box. -/
theorem bxE {N : Tmp} (hd : o.dst = some N) (hgd : o.guard = none) (HB : Bx w0 W L)
    (hrun : (execOp a.eval o).run P W = .ok (.value (.pointer (some ⟨W.heap.size, 0, none⟩))) (W.alloc (.cells cs t (0, 0))))
    (h : ∀ g w1, Bx w0 w1 ((g, cs, t) :: L) → wpList P ops Q rest (a.put o.dst (.pointer (some ⟨g, 0, none⟩))) w1) : wpList P ops Q (o :: rest) a W :=
  box_event hgd hd hrun (fun _ hg _ hb hB => h _ _ (HB.new hg hb hB))
/-- A box, or a part of it, is written. -/
theorem stE {ty : TypeId} {p v : Operand} {u : Value} {seg : List Value} (i : Nat) (j : Nat) (HB : Bx w0 W L) (hi : L[i]? = some (g, cs, t)) (ho : o.op = .store ty p v) (hgd : o.guard = none) (hN : o.dst = none) (hp : a.eval p = .pointer (some ⟨g, j, none⟩)) (hv : a.eval v = u)
    (hu : u.cells.toList = seg) (ht : (P.info? ty).map (·.size) = some seg.length) (h1 : ∀ q ∈ seg, q.oneCell' = true) (hj : j + seg.length ≤ cs.size) (he : cs'.toList = cs.toList.take j ++ seg ++ cs.toList.drop (j + seg.length))
    (h : ∀ w1, Bx w0 w1 (L.set i (g, cs', t)) → wpList P ops Q rest a w1) : wpList P ops Q (o :: rest) a W := by
  refine wpList_plain hgd fun K hK => ?_
  unfold Oper.wp execOp
  simp only [ho, hp, hv, Sem.run_bind, run_store_run ty u seg (HB.get i hi) hu ht hj h1]
  show K (a.put o.dst undef) _
  rw [hN]
  exact hK _ _ (h _ (HB.put i hi j hj he))
/-- A box is read whole. -/
theorem ldE {ty : TypeId} {p : Operand} {d : TypeDesc} {N : Tmp} (hd : o.dst = some N) (i : Nat) (HB : Bx w0 W L) (hi : L[i]? = some (g, cs, t)) (ho : o.op = .load ty p) (hgd : o.guard = none) (hp : a.eval p = .pointer (some ⟨g, 0, none⟩)) (hu : P.underlying ty = some d) (hst : (match d with | .struct _ | .array _ _ => true | _ => false) = true) (ht : (P.info? ty).map (·.size) = some cs.size)
    (h : wpList P ops Q rest (a.put o.dst (.agg cs)) W) : wpList P ops Q (o :: rest) a W := by
  refine wpList_plain hgd fun K hK => ?_
  unfold Oper.wp execOp
  simp only [ho, hp, Sem.run_bind, run_agg ty (HB.get i hi) hu hst ht]
  exact hK _ _ h
end
section
variable {P : Program} {ops : Array Oper} {rest : List Oper} {o : Oper} {a : Act} {Q : Exit → Act → World → Prop} {w0 W : World} {L : List (Nat × Array Value × Nat)} {g t : Nat} {cs cs' : Array Value}
/-- A new block, whatever tells of it. -/
theorem bxV {N : Tmp} (form : Nat → Value) (hd : o.dst = some N) (hgd : o.guard = none) (HB : Bx w0 W L)
    (hrun : (execOp a.eval o).run P W = .ok (.value (form W.heap.size)) (W.alloc (.cells cs t (0, 0))))
    (h : ∀ g w1, Aside0 (Bx w0 w1 ((g, cs, t) :: L)) → wpList P ops Q rest (a.put o.dst (form g)) w1) : wpList P ops Q (o :: rest) a W :=
  Kd.event_run hgd hrun (h _ _ ⟨HB.new rfl (blk_new W _) (below_alloc (Below.refl _ _) _)⟩)
end
def Tabs (w : World) : Prop := Lib.TabIs Tryd.prog w "strings.asciiSpace" .u8 Lib.asciiSpaceTab ∧ Lib.TabIs Tryd.prog w "internal/strconv.uint64pow10" .u64 Lib.pow10Tab ∧ IsErr w "strconv.ErrSyntax" ∧ IsErr w "strconv.ErrRange"
theorem Tabs.below {w w' : World} (h : Tabs w) (hb : Below w.heap.size w w') : Tabs w' := ⟨tab_below h.1 hb, tab_below h.2.1 hb, err_below h.2.2.1 hb, err_below h.2.2.2 hb⟩
set_option maxHeartbeats 4000000 in
set_option maxRecDepth 100000 in
/-- Not one or two words. -/
theorem readInstr_len (ws : List ByteArray) (A : Option Addr) (c : Nat) (w : World) (h : ws.length = 0 ∨ 2 < ws.length) (hl : ws.length ≤ 1000000000) :
    Calls Tryd.prog 9 #[.slice A ws.length c] w fun e w' => e = .returned (.tuple #[.agg #[.int .i64 0, .int .i64 0], .bool false]) ∧ Below w.heap.size w w' := by
  have hu23 := Tryd.underlying23
  have HX := Aside0.mk (Bx.nil w)
  by_cases c0 : ws.length = 0
  · have c0b : ((ws.length : Int) == 0) = true := beq_iff_eq.mpr (by omega)
    clear h hl c0
    go_enter Tryd.func9, Tryd.ntmps9
    go_wp2_with (first
      | ((with_reducible refine gate_dst (N := 2) rfl ?_); refine bxV (N := 2) (cs := #[.int .i64 0, .int .i64 0]) (t := 23) (fun g => .pointer (some ⟨g, 0, none⟩)) rfl rfl HX.out ?h2 ?_; (case h2 => first | (go_simp; done) | (go_simp; rfl)); clear HX; intro b2 w5 HX)
      | ((with_reducible refine gate_store (t := 23) (p := 2) rfl ?_); refine stE (cs' := #[.int .i64 0, .int .i64 0]) (u := .agg #[.int .i64 0, .int .i64 0]) (seg := [.int .i64 0, .int .i64 0]) 0 0 HX.out rfl rfl rfl rfl rfl rfl rfl (by kernel_rfl) (by intro q hq; simp only [List.mem_cons, List.not_mem_nil, or_false] at hq; rcases hq with rfl | rfl <;> rfl) (Nat.le_refl 2) rfl ?_; intro w6 h1; have n_ : Aside0 (Bx w w6 [(b2, #[.int .i64 0, .int .i64 0], 23)]) := ⟨h1⟩; clear HX h1; have HX := n_; clear n_))
    refine bodyPost_ret (results_ct rfl _ _ b2 23 #[.int .i64 0, .int .i64 0] (0, 0) _ rfl (HX.out.get 0 rfl) hu23 rfl (by kernel_rfl)) rfl ?_
    exact ⟨rfl, HX.out.1⟩
  · have c0b : ((ws.length : Int) == 0) = false := beq_eq_false_iff_ne.mpr (by omega)
    have c2b : decide ((2 : Int) < (ws.length : Int)) = true := decide_eq_true (by omega)
    have c3b : decide ((ws.length : Int) > 2) = true := decide_eq_true (by omega)
    clear h hl c0
    go_enter Tryd.func9, Tryd.ntmps9
    go_wp2_with (first
      | ((with_reducible refine gate_dst (N := 2) rfl ?_); refine bxV (N := 2) (cs := #[.int .i64 0, .int .i64 0]) (t := 23) (fun g => .pointer (some ⟨g, 0, none⟩)) rfl rfl HX.out ?h2 ?_; (case h2 => first | (go_simp; done) | (go_simp; rfl)); clear HX; intro b2 w5 HX)
      | ((with_reducible refine gate_store (t := 23) (p := 2) rfl ?_); refine stE (cs' := #[.int .i64 0, .int .i64 0]) (u := .agg #[.int .i64 0, .int .i64 0]) (seg := [.int .i64 0, .int .i64 0]) 0 0 HX.out rfl rfl rfl rfl rfl rfl rfl (by kernel_rfl) (by intro q hq; simp only [List.mem_cons, List.not_mem_nil, or_false] at hq; rcases hq with rfl | rfl <;> rfl) (Nat.le_refl 2) rfl ?_; intro w6 h1; have n_ : Aside0 (Bx w w6 [(b2, #[.int .i64 0, .int .i64 0], 23)]) := ⟨h1⟩; clear HX h1; have HX := n_; clear n_))
    refine bodyPost_ret (results_ct rfl _ _ b2 23 #[.int .i64 0, .int .i64 0] (0, 0) _ rfl (HX.out.get 0 rfl) hu23 rfl (by kernel_rfl)) rfl ?_
    exact ⟨rfl, HX.out.1⟩
set_option maxHeartbeats 4000000 in
set_option maxRecDepth 100000 in
/-- An operand where none belongs, or none where one does. -/
theorem readInstr_mis (ws : List ByteArray) (A : Option Addr) (c : Nat) (w : World) (hT : Tabs w) (hC : Kd.C Kd.string w A ws.length ws) (h : ws.length = 1 ∨ ws.length = 2) (hm : (rng (plc ow (ws.getD 0 ByteArray.empty) 0 + 1)).2.2 = !((ws.length : Int) == 2)) :
    Calls Tryd.prog 9 #[.slice A ws.length c] w fun e w' => e = .returned (.tuple #[.agg #[.int .i64 0, .int .i64 0], .bool false]) ∧ Below w.heap.size w w' := by
  have hu23 := Tryd.underlying23
  have HX := Aside0.mk (Bx.nil w)
  have HT := Aside0.mk hT
  obtain ⟨ad, rfl, hcell⟩ := str_at hC 0 (by omega) (by omega)
  obtain ⟨s, hs⟩ : ∃ s, s = ws.getD 0 ByteArray.empty := ⟨_, rfl⟩
  have e_ : ad.add 0 = ad := by cases ad; first | rfl | simp [Addr.add]
  have hcell0 : w.cell? ad = some (.string s) := (show w.cell? ad = w.cell? (ad.add 0) by rw [e_]).trans (by rw [hs]; exact hcell)
  have HCL := Aside0.mk hcell0
  rw [← hs] at hm
  obtain ⟨op, hop⟩ : ∃ op, op = plc ow s 0 + 1 := ⟨_, rfl⟩
  rw [← hop] at hm
  have HOP := Aside0.mk (OpOf_calls s)
  rw [← hop] at HOP
  have HHAS := Aside0.mk (impl_hasOperand.calls 3 op _ · (hasOp_f op))
  obtain ⟨b, hb⟩ : ∃ b, b = ((ws.length : Int) == 2) := ⟨_, rfl⟩
  have c2e : ((ws.length : Int) == 2) = b := hb.symm
  rw [← hb] at hm
  rw [hm] at HHAS
  have c0b : ((ws.length : Int) == 0) = false := beq_eq_false_iff_ne.mpr (by omega)
  have c2b : decide ((2 : Int) < (ws.length : Int)) = false := decide_eq_false (by omega)
  have c3b : decide ((ws.length : Int) > 2) = false := decide_eq_false (by omega)
  have q5 : ((0 : Int) < (ws.length : Int)) = True := eq_true (by omega)
  have q6 : (0 < ws.length) = True := eq_true (by omega)
  have q7 : (ws = []) = False := eq_false (fun e => by rw [e] at h; simp at h)
  have nb : ((!b) != b) = true := by cases b <;> rfl
  clear h hC hcell hs hop hT hb hm
  go_enter Tryd.func9, Tryd.ntmps9
  go_wp2_with (first
    | ((with_reducible refine gate_dst (N := 2) rfl ?_); refine bxV (N := 2) (cs := #[.int .i64 0, .int .i64 0]) (t := 23) (fun g => .pointer (some ⟨g, 0, none⟩)) rfl rfl HX.out ?h2 ?_; (case h2 => first | (go_simp; done) | (go_simp; rfl)); clear HX; intro b2 w5 HX; have hcl : w5.cell? ad = some (.string s) := ((HX.out.1.cell (World.block_lt_of_cell? w _ HCL.out)).trans HCL.out))
    | (go_at_call 18; refine (HOP.out _ (HT.out.below HX.out.1).1).mono ?_; rintro e w6 ⟨rfl, hb_⟩; have n_ := Aside0.mk (HX.out.below hb_); clear HX hb_ hcl; have HX := n_; clear n_)
    | ((with_reducible refine gate_dst (N := 4) rfl ?_); refine bxV (N := 4) (cs := #[.int .i64 0, .int .i64 0]) (t := 23) (fun g => .pointer (some ⟨g, 0, none⟩)) rfl rfl HX.out ?h4 ?_; (case h4 => first | (go_simp; done) | (go_simp; rfl)); clear HX; intro b4 w7 HX)
    | ((with_reducible refine gate_store (t := 23) (p := 4) rfl ?_); refine stE (cs' := #[.int .i64 op, .int .i64 0]) (u := .agg #[.int .i64 op, .int .i64 0]) (seg := [.int .i64 op, .int .i64 0]) 0 0 HX.out rfl rfl rfl rfl rfl rfl rfl (by kernel_rfl) (by intro q hq; simp only [List.mem_cons, List.not_mem_nil, or_false] at hq; rcases hq with rfl | rfl <;> rfl) (Nat.le_refl 2) rfl ?_; intro w8 h1; have n_ : Aside0 (Bx w w8 [(b4, #[.int .i64 op, .int .i64 0], 23), (b2, #[.int .i64 0, .int .i64 0], 23)]) := ⟨h1⟩; clear HX h1; have HX := n_; clear n_; have hcz : w8.cell? ⟨b4, 0, none⟩ = some (.int .i64 op) := (blk_cell (HX.out.get 0 rfl) 0).trans rfl)
    | (go_at_call 19; refine (HHAS.out _).mono ?_; rintro e w9 ⟨rfl, q_, rfl⟩; have n_ := Aside0.mk (HX.out.drewN q_); clear HX hcz; have HX := n_; clear n_)
    | ((with_reducible refine gate_store (t := 23) (p := 2) rfl ?_); refine stE (cs' := #[.int .i64 0, .int .i64 0]) (u := .agg #[.int .i64 0, .int .i64 0]) (seg := [.int .i64 0, .int .i64 0]) 1 0 HX.out rfl rfl rfl rfl rfl rfl rfl (by kernel_rfl) (by intro q hq; simp only [List.mem_cons, List.not_mem_nil, or_false] at hq; rcases hq with rfl | rfl <;> rfl) (Nat.le_refl 2) rfl ?_; intro w10 h1; have n_ := Aside0.mk h1; clear HX h1; have HX := n_; clear n_))
  refine bodyPost_ret (results_ct rfl _ _ b2 23 #[.int .i64 0, .int .i64 0] (0, 0) _ rfl (HX.out.get 1 rfl) hu23 rfl (by kernel_rfl)) rfl ?_
  exact ⟨rfl, HX.out.1⟩
/-! A region whose operations come up in any order, walked with one invariant over the operations that have come up. -/
section
variable {P : Program} {ops : Array Oper} {Q : Exit → Act → World → Prop}
/-- Each operation waits for earlier ones alone. -/
def lowB (T : List (List Nat × List Nat)) : Bool := (List.range T.length).all fun i => match T[i]? with | some r => r.1.all (fun j => decide (j < i)) | none => true
theorem low_done {T : List (List Nat × List Nat)} (hl : lowB T = true) (l : List Bool) (hn : l.length = T.length) (hr : readyT T l = []) : ∀ i, i < T.length → l.getD i false = true := by
  intro i
  induction i using Nat.strongRecOn with
  | _ i ih =>
    intro hi
    by_cases c : l.getD i false = true
    · exact c
    · exfalso
      have hm : i ∈ readyT T l := by
        unfold readyT
        refine List.mem_filter.2 ⟨List.mem_range.2 hi, ?_⟩
        unfold readyAt
        have h1 : l.getD i true = false := by
          have hi' : i < l.length := by omega
          simp only [List.getD_eq_getElem?_getD, List.getElem?_eq_getElem hi', Option.getD_some] at c ⊢
          simpa using c
        rw [h1, List.getElem?_eq_getElem hi]
        simp only [Bool.not_false, Bool.true_and]
        refine List.all_eq_true.2 (fun j hj => ?_)
        have h2 := List.all_eq_true.1 hl i (List.mem_range.2 hi)
        rw [List.getElem?_eq_getElem hi] at h2
        have h3 := of_decide_eq_true (List.all_eq_true.1 h2 j hj)
        exact ih j h3 (by omega)
      rw [hr] at hm
      cases hm
theorem all_true {l : List Bool} {n : Nat} (hn : l.length = n) (h : ∀ i, i < n → l.getD i false = true) : l = List.replicate n true := by
  refine List.ext_getElem (by simp [hn]) (fun i h1 h2 => ?_)
  have := h i (by omega)
  rw [List.getD_eq_getElem?_getD, List.getElem?_eq_getElem h1] at this
  simpa using this
theorem last_inv {T : Bool × List (List Nat × List Nat)} {S : World → Prop} {ds : List Nat} (hS : ∀ w, S w) (hT : rtab .any ops = T) (hl : lowB T.2 = true) (m : Nat) (hm : T.2.length = m + 1)
    (hlast : (match T.2[m]? with | some r => (List.range m).all (fun j => r.1.contains j) | none => false) = true) (I : List Bool → Act → World → Prop)
    (hend : ∀ a w, I (List.replicate m true ++ [false]) a w → wpAnyLast P .any ops Q S ds 1 (List.replicate m true ++ [false]).toArray a w)
    (hstep : ∀ (l : List Bool) a w, l.length = m + 1 → I l a w → ∀ i, i < m → l.getD i true = false → (∀ r, T.2[i]? = some r → ∀ j ∈ r.1, l.getD j false = true) → wpOp P ops Q i (fun a' w' => I (l.set i true) a' w') a w) :
    ∀ (fuel : Nat) (l : Array Bool) a w, l.size = m + 1 → l.toList.getD m true = false → l.toList.count false = fuel + 1 → I l.toList a w → wpAnyLast P .any ops Q S ds (fuel + 1) l a w := by
  intro fuel
  induction fuel with
  | zero =>
    intro l a w hs hlm hc hI
    have ht : l.toList = List.replicate m true ++ [false] := by
      refine List.ext_getElem (by simpa using hs) (fun i h1 h2 => ?_)
      have hi : i < m + 1 := by simp at h2; omega
      have hml : m < l.toList.length := by simp; omega
      have hlm' : l.toList[m] = false := by
        rw [List.getD_eq_getElem?_getD, List.getElem?_eq_getElem hml] at hlm
        simpa using hlm
      by_cases c : i = m
      · subst c
        rw [hlm']
        simp
      · have c2 : i < m := by omega
        rw [List.getElem_append_left (by simpa using c2)]
        simp only [List.getElem_replicate]
        cases h : l.toList[i] with
        | true => rfl
        | false =>
          exfalso
          have hsp := List.take_append_drop m l.toList
          have e1 : 0 < (l.toList.take m).count false := List.count_pos_iff.2 (by
            rw [List.mem_take_iff_getElem]
            exact ⟨i, by omega, h⟩)
          have e2 : 0 < (l.toList.drop m).count false := List.count_pos_iff.2 (by
            rw [List.drop_eq_getElem_cons hml, hlm']
            exact List.mem_cons_self)
          have := List.count_append (a := false) (l₁ := l.toList.take m) (l₂ := l.toList.drop m)
          rw [hsp] at this
          omega
    have := hend a w (ht ▸ hI)
    rw [← ht] at this
    exact this
  | succ fuel ih =>
    intro l a w hs hlm hc hI
    have hrd : ∀ i, i ∈ Region.ready .any ops l → i < T.2.length ∧ l.toList.getD i true = false ∧ ∀ r, T.2[i]? = some r → ∀ j ∈ r.1, l.toList.getD j false = true := by
      intro i hi
      rw [ready_eq, hT] at hi
      unfold readyT at hi
      obtain ⟨hi1, hi2⟩ := List.mem_filter.1 hi
      unfold readyAt at hi2
      rw [Bool.and_eq_true] at hi2
      refine ⟨List.mem_range.1 hi1, by simpa using hi2.1, fun r hr j hj => ?_⟩
      have := hi2.2
      rw [hr] at this
      exact List.all_eq_true.1 this j hj
    refine ⟨fun h0 => ?_, fun i hi => ?_⟩
    · exfalso
      rw [ready_eq, hT] at h0
      have := low_done hl l.toList (by simpa [hm] using hs) h0 m (by omega)
      rw [List.getD_eq_getElem?_getD] at this hlm
      have hml : m < l.toList.length := by simp; omega
      rw [List.getElem?_eq_getElem hml] at this hlm
      simp only [Option.getD_some] at this hlm
      rw [this] at hlm
      cases hlm
    obtain ⟨hi1, hf, hd⟩ := hrd i hi
    have hne : i ≠ m := by
      intro e
      subst e
      have hr := List.getElem?_eq_getElem hi1
      rw [hr] at hlast
      simp only at hlast
      have : l.toList = List.replicate i true ++ [false] := by
        refine List.ext_getElem (by simpa using hs) (fun k h1 h2 => ?_)
        have hk : k < i + 1 := by simp at h2; omega
        by_cases c : k = i
        · subst c
          have hml : k < l.toList.length := h1
          rw [List.getD_eq_getElem?_getD, List.getElem?_eq_getElem hml] at hlm
          simp only [Option.getD_some] at hlm
          rw [hlm]
          simp
        · have c2 : k < i := by omega
          rw [List.getElem_append_left (by simpa using c2)]
          simp only [List.getElem_replicate]
          have h3 := List.all_eq_true.1 hlast k (List.mem_range.2 c2)
          have h4 := hd _ hr k (by simpa using h3)
          rw [List.getD_eq_getElem?_getD, List.getElem?_eq_getElem h1] at h4
          simpa using h4
      rw [this] at hc
      simp [List.count_append, List.count_replicate] at hc
    have hst := hstep l.toList a w (by simpa using hs) hI i (by omega) hf hd
    refine wpOp_mono (fun a' w' h' => ⟨fun _ _ => hS w', ?_⟩) hst
    have hi' : i < l.toList.length := by simp; omega
    have hfi : l.toList[i] = false := by
      rw [List.getD_eq_getElem?_getD, List.getElem?_eq_getElem hi'] at hf
      simpa using hf
    refine ih _ a' w' (by simpa using hs) ?_ ?_ (by simpa using h')
    · rw [Array.toList_setIfInBounds, List.getD_eq_getElem?_getD, List.getElem?_set_ne hne, ← List.getD_eq_getElem?_getD]
      exact hlm
    · rw [Array.toList_setIfInBounds, List.count_set hi', hfi]
      show l.toList.count false - 1 + 0 = fuel + 1
      omega
end
/-- The slots as they are when the operations of l have come up: D tells which operation writes a slot, V what it writes. -/
def updT (D : Nat → Option Nat) (l : List Bool) (V : Nat → Value) (t : Array Value) : Array Value := t.mapIdx fun k v => match D k with | some i => if l.getD i false then V i else v | none => v
def updA (a : Act) (D : Nat → Option Nat) (l : List Bool) (V : Nat → Value) : Act := { a with tmps := updT D l V a.tmps }
def setV (V : Nat → Value) (i : Nat) (v : Value) : Nat → Value := fun j => if j = i then v else V j
theorem setV_same (V : Nat → Value) (i : Nat) (v : Value) : setV V i v i = v := if_pos rfl
theorem setV_other (V : Nat → Value) {i j : Nat} (v : Value) (h : j ≠ i) : setV V i v j = V j := if_neg h
theorem updA_start (a : Act) (D : Nat → Option Nat) (n : Nat) (V : Nat → Value) : updA a D (List.replicate n false) V = a := by
  unfold updA updT
  have : a.tmps.mapIdx (fun k v => match D k with | some i => if (List.replicate n false).getD i false then V i else v | none => v) = a.tmps := by
    refine Array.ext (by simp) (fun k h1 h2 => ?_)
    rw [Array.getElem_mapIdx]
    cases D k with
    | none => rfl
    | some i =>
      have : (List.replicate n false).getD i false = false := by
        rw [List.getD_eq_getElem?_getD, List.getElem?_replicate]
        split <;> rfl
      simp only [this, Bool.false_eq_true, if_false]
  rw [this]
theorem updA_put (a : Act) (D : Nat → Option Nat) (l : List Bool) (V : Nat → Value) (i N : Nat) (v : Value) (hi : i < l.length) (hD : D N = some i) (hu : ∀ k, D k = some i → k = N) :
    (updA a D l V).put (some N) v = updA a D (l.set i true) (setV V i v) := by
  unfold updA updT Act.put
  simp only
  congr 1
  refine Array.ext (by simp) (fun k h1 h2 => ?_)
  have hk0 : k < (a.tmps.mapIdx (fun k v => match D k with | some i => if l.getD i false then V i else v | none => v)).size := by simpa using h1
  rw [Array.getElem_setIfInBounds hk0, Array.getElem_mapIdx]
  by_cases c : N = k
  · subst c
    rw [if_pos rfl]
    simp [List.getD_eq_getElem?_getD, hi, setV, hD]
  · rw [if_neg c, Array.getElem_mapIdx]
    cases hk : D k with
    | none => rfl
    | some j =>
      have hj : j ≠ i := fun e => c (hu k (e ▸ hk)).symm
      simp only [List.getD_eq_getElem?_getD, List.getElem?_set_ne (Ne.symm hj), setV_other V v hj]
theorem updA_skip (a : Act) (D : Nat → Option Nat) (l : List Bool) (V : Nat → Value) (i : Nat) (hu : ∀ k, D k ≠ some i) : updA a D l V = updA a D (l.set i true) V := by
  unfold updA updT
  congr 1
  refine Array.ext (by simp) (fun k h1 h2 => ?_)
  rw [Array.getElem_mapIdx, Array.getElem_mapIdx]
  cases hk : D k with
  | none => rfl
  | some j =>
    have hj : j ≠ i := fun e => hu k (e ▸ hk)
    simp only [List.getD_eq_getElem?_getD, List.getElem?_set_ne (Ne.symm hj)]
theorem updA_tmp (a : Act) (D : Nat → Option Nat) (l : List Bool) (V : Nat → Value) (i N : Nat) (hN : N < a.tmps.size) (hD : D N = some i) (hl : l.getD i false = true) : (updA a D l V).eval (.tmp N) = V i := by
  unfold updA updT Act.eval
  simp only [Array.getD_eq_getD_getElem?, Array.getElem?_mapIdx, Array.getElem?_eq_getElem hN, Option.map_some, Option.getD_some, hD, hl, if_true]
theorem updA_old (a : Act) (D : Nat → Option Nat) (l : List Bool) (V : Nat → Value) (N : Nat) (hD : D N = none) : (updA a D l V).eval (.tmp N) = a.eval (.tmp N) := by
  unfold updA updT Act.eval
  simp only [Array.getD_eq_getD_getElem?, Array.getElem?_mapIdx, hD]
  cases a.tmps[N]? <;> rfl
/-- The slots' table as a function. -/
def slotOf (ps : List (Nat × Nat)) (k : Nat) : Option Nat := (ps.find? (fun p => p.1 == k)).map (·.2)
theorem slotOf_mem {ps : List (Nat × Nat)} {k i : Nat} (h : slotOf ps k = some i) : (k, i) ∈ ps := by
  unfold slotOf at h
  cases hf : ps.find? (fun p => p.1 == k) with
  | none => rw [hf] at h; cases h
  | some p =>
    rw [hf] at h
    have h1 := List.mem_of_find?_eq_some hf
    have h2 := List.find?_some hf
    obtain ⟨a, b⟩ := p
    simp only [Option.map_some, Option.some.injEq, beq_iff_eq] at h h2
    subst h h2
    exact h1
def onceB (ps : List (Nat × Nat)) (N i : Nat) : Bool := slotOf ps N == some i && ps.all (fun p => p.2 != i || p.1 == N)
theorem once_slot {ps : List (Nat × Nat)} {N i : Nat} (h : onceB ps N i = true) : slotOf ps N = some i ∧ ∀ k, slotOf ps k = some i → k = N := by
  unfold onceB at h
  rw [Bool.and_eq_true, beq_iff_eq] at h
  refine ⟨h.1, fun k hk => ?_⟩
  have := List.all_eq_true.1 h.2 _ (slotOf_mem hk)
  simpa using this
theorem updA_put_same (a : Act) (D : Nat → Option Nat) (l : List Bool) (V : Nat → Value) (i N : Nat) (hi : i < l.length) (hD : D N = some i) (hu : ∀ k, D k = some i → k = N) :
    (updA a D l V).put (some N) (V i) = updA a D (l.set i true) V := by
  rw [updA_put a D l V i N _ hi hD hu]
  congr 1
  funext j
  unfold setV
  split <;> simp_all
theorem putAll_upd (a : Act) (D : Nat → Option Nat) (V : Nat → Value) : ∀ (ps : List (Nat × Nat)) (l : List Bool), (∀ p ∈ ps, p.2 < l.length ∧ D p.1 = some p.2 ∧ ∀ k, D k = some p.2 → k = p.1) →
    putAll (updA a D l V) (ps.map (fun p => (p.1, V p.2))) = updA a D (ps.foldl (fun l p => l.set p.2 true) l) V
  | [], _, _ => rfl
  | p :: ps, l, h => by
    obtain ⟨h1, h2, h3⟩ := h p List.mem_cons_self
    rw [List.map_cons, List.foldl_cons]
    unfold putAll
    rw [updA_put_same a D l V p.2 p.1 h1 h2 h3]
    exact putAll_upd a D V ps _ (fun q hq => by
      obtain ⟨q1, q2, q3⟩ := h q (List.mem_cons_of_mem _ hq)
      exact ⟨by simpa using q1, q2, q3⟩)
/-- A region of m operations in any order, and a last one behind them: NJ is what holds when the operations of l have come up, V what they have written. -/
theorem makers_ {P : Program} {ops : Array Oper} {Q : Exit → Act → World → Prop} {T : Bool × List (List Nat × List Nat)} {S : World → Prop} {ds : List Nat} {a : Act} {w : World} (ps : List (Nat × Nat)) (NJ : List Bool → (Nat → Value) → World → Prop) (V0 : Nat → Value)
    (hS : ∀ w, S w) (hT : rtab .any ops = T) (hl : lowB T.2 = true) (m : Nat) (hm : T.2.length = m + 1)
    (hlast : (match T.2[m]? with | some r => (List.range m).all (fun j => r.1.contains j) | none => false) = true)
    (hps : (ps.all (fun p => decide (p.2 < m + 1) && onceB ps p.1 p.2)) = true)
    (hfold : ps.foldl (fun l p => l.set p.2 true) (List.replicate (m + 1) false) = List.replicate m true ++ [false])
    (h0 : NJ (List.replicate (m + 1) false) V0 w)
    (hend : ∀ V w', NJ (List.replicate m true ++ [false]) V w' → wpAnyLast P .any ops Q S ds 1 (List.replicate m true ++ [false]).toArray (putAll a (ps.map (fun p => (p.1, V p.2)))) w')
    (hstep : ∀ (l : List Bool) V w', l.length = m + 1 → NJ l V w' → ∀ i, i < m → l.getD i true = false → (∀ r, T.2[i]? = some r → ∀ j ∈ r.1, l.getD j false = true) →
      ∃ o, ops[i]? = some o ∧ ∃ N, o.dst = some N ∧ onceB ps N i = true ∧ ∀ K' : Act → World → Prop, (∀ v w1, NJ (l.set i true) (setV V i v) w1 → K' ((updA a (slotOf ps) l V).put (some N) v) w1) →
        if Region.wanted o (yielded ops (updA a (slotOf ps) l V).tmps) = true then Oper.wp P o (updA a (slotOf ps) l V) w' K' Q else K' ((updA a (slotOf ps) l V).put o.dst undef) w') :
    wpAnyLast P .any ops Q S ds (m + 1) (List.replicate (m + 1) false).toArray a w := by
  refine last_inv hS hT hl m hm hlast (fun l a' w' => ∃ V, a' = updA a (slotOf ps) l V ∧ NJ l V w') ?_ ?_ m _ a w (by simp) (by simp [List.getD_eq_getElem?_getD]) (by simp) ⟨V0, (updA_start a _ (m + 1) V0).symm, by simpa using h0⟩
  · rintro a' w' ⟨V, rfl, hV⟩
    have := hend V w' hV
    rw [← updA_start a (slotOf ps) (m + 1) V, putAll_upd a (slotOf ps) V ps _ (fun p hp => ?_), hfold] at this
    · exact this
    · have := List.all_eq_true.1 hps p hp
      rw [Bool.and_eq_true] at this
      obtain ⟨h1, h2⟩ := this
      exact ⟨by simpa using h1, (once_slot h2).1, (once_slot h2).2⟩
  · rintro l a' w' hn ⟨V, rfl, hV⟩ i hi hf hd
    obtain ⟨o, ho, N, hN, hon, hst⟩ := hstep l V w' hn hV i hi hf hd
    refine wpOp_step ho (fun K' hK => hst K' (fun v w1 hv => ?_))
    refine hK _ _ ⟨setV V i v, ?_, hv⟩
    obtain ⟨q1, q2⟩ := once_slot hon
    exact updA_put a _ l V i N v (by omega) q1 q2
/-- What an operation yields, whatever slots it does not read hold. -/
def StepV (P : Program) (o : Oper) (ρ : Operand → Value) (w : World) (v : Value) (I : World → Prop) : Prop := match (execOp ρ o).run P w with
  | .ok (.value u) w1 => u = v ∧ I w1
  | .ok (.enter f args) w1 => Calls P f args w1 (fun e w2 => e = .returned v ∧ I w2)
  | _ => False
/-- Operation i of a region is of the simple kind: it has a slot of its own and reads old slots, and those that it waits for. -/
def simpleB (ops : Array Oper) (T : List (List Nat × List Nat)) (ps : List (Nat × Nat)) (i : Nat) : Bool := match ops[i]? with
  | some o => o.guard.isNone && (match o.dst with | some N => onceB ps N i | none => false) && (match o.op with | .select _ _ => false | _ => true) && o.op.operands.toList.all (fun x => match x with
    | .tmp N => (match slotOf ps N with | none => true | some j => (match T[i]? with | some r => r.1.contains j | none => false))
    | _ => true)
  | none => false
theorem updA_tmp2 (a : Act) (D : Nat → Option Nat) (l l2 : List Bool) (V : Nat → Value) (i N : Nat) (hD : D N = some i) (hl : l.getD i false = true) (hl2 : l2.getD i false = true) : (updA a D l V).eval (.tmp N) = (updA a D l2 V).eval (.tmp N) := by
  unfold updA updT Act.eval
  simp only [Array.getD_eq_getD_getElem?, Array.getElem?_mapIdx, hD, hl, hl2, if_true]
/-- The step of operation i. -/
def Step1 (P : Program) (ops : Array Oper) (F : Act) (V : Nat → Value) (I : World → Prop) (w : World) (i : Nat) : Prop := match ops[i]? with
  | some o => StepV P o F.eval w (V i) I
  | none => False
def StepsV (P : Program) (ops : Array Oper) (F : Act) (V : Nat → Value) (I : World → Prop) (w : World) : List Nat → Prop
  | [] => True
  | i :: r => Step1 P ops F V I w i ∧ StepsV P ops F V I w r
theorem StepsV.at {P : Program} {ops : Array Oper} {F : Act} {V : Nat → Value} {I : World → Prop} {w : World} : ∀ {l : List Nat}, StepsV P ops F V I w l → ∀ i ∈ l, Step1 P ops F V I w i
  | _ :: _, h, i, hi => by
    rcases List.mem_cons.1 hi with rfl | hi
    · exact h.1
    · exact StepsV.at h.2 i hi
theorem st_v {P : Program} {ops : Array Oper} {F : Act} {V : Nat → Value} {I : World → Prop} {w : World} {i : Nat} {o : Oper} (ho : ops[i]? = some o) (hI : I w) (hr : (execOp F.eval o).run P w = .ok (.value (V i)) w := by first | (go_simp; done) | (go_simp; rfl) | (go_simp; simp only [i64_w]; done) | (go_simp; simp only [i64_w]; rfl)) : Step1 P ops F V I w i := by
  unfold Step1
  rw [ho]
  show StepV P o F.eval w (V i) I
  unfold StepV
  rw [hr]
  exact ⟨rfl, hI⟩
/-- A box is read. -/
theorem st_ld {P : Program} {ops : Array Oper} {F : Act} {V : Nat → Value} {I : World → Prop} {w w0 : World} {L : List (Nat × Array Value × Nat)} {g t : Nat} {cs : Array Value} {i : Nat} {o : Oper} {ty : TypeId} {p : Operand} {d : TypeDesc} (ho : ops[i]? = some o) (j : Nat) (HB : Bx w0 w L) (hj : L[j]? = some (g, cs, t)) (hop : o.op = .load ty p)
    (hp : F.eval p = .pointer (some ⟨g, 0, none⟩)) (hu : P.underlying ty = some d) (hst : (match d with | .struct _ | .array _ _ => true | _ => false) = true) (ht : (P.info? ty).map (·.size) = some cs.size) (hv : .agg cs = V i) (hI : I w) : Step1 P ops F V I w i := by
  refine st_v ho hI ?_
  rw [← hv]
  unfold execOp
  simp only [hop, hp, Sem.run_bind, run_agg ty (HB.get j hj) hu hst ht]
  rfl
/-- A call of a Go function. -/
theorem st_call {P : Program} {ops : Array Oper} {F : Act} {V : Nat → Value} {I : World → Prop} {w : World} {i : Nat} {o : Oper} {f : FuncId} {fn : Func} {ars : Array Operand} {ts : Array TypeId} (ho : ops[i]? = some o) (hf : P.funcs[f]? = some fn) (hname : (fn.name == "runtime.NumGoroutine") = false) (hb : fn.body.isSome = true) (args : Array Value)
    (hop : o.op = .call { callee := .value (.func f), args := ars, argTypes := ts }) (h : Calls P f args w fun e w' => e = .returned (V i) ∧ I w') (hargs : ars.map F.eval = args := by simp only [List.map_toArray, List.map_cons, List.map_nil]; rfl) : Step1 P ops F V I w i := by
  unfold Step1
  rw [ho]
  show StepV P o F.eval w (V i) I
  unfold StepV
  have he := enters_ hf hname hb args w
  have hrun : (execOp F.eval o).run P w = .ok (.enter f args) w := by
    unfold execOp
    simp [hop, resolve, Deferred.ofValue, invoke, Act.eval, hargs, he]
  rw [hrun]
  exact h
/-- The table of a region of m simple operations ahead of a last one. q: an operation apart (its slot is read by the last one alone). -/
def detB (ops : Array Oper) (ps : List (Nat × Nat)) (m q : Nat) : Bool :=
  let T := (rtab .any ops).2
  lowB T && T.length == m + 1 && (match T[m]? with | some r => (List.range m).all (fun j => r.1.contains j) | none => false) && ps.all (fun p => decide (p.2 < m + 1) && onceB ps p.1 p.2) && ps.foldl (fun l p => l.set p.2 true) (List.replicate (m + 1) false) == List.replicate m true ++ [false] && (List.range m).all (fun i => i == q || simpleB ops T ps i) && (List.range m).all (fun i => match T[i]? with | some r => !r.1.contains q | none => false)
theorem eval_simple {ops : Array Oper} {ps : List (Nat × Nat)} {T : List (List Nat × List Nat)} {a : Act} {V V2 : Nat → Value} {l : List Bool} {m i q : Nat} {o : Oper} (ho : ops[i]? = some o) (hs : simpleB ops T ps i = true) (hl : lowB T = true) (hi : i < m) (hT : T.length = m + 1)
    (hd : ∀ r, T[i]? = some r → ∀ j ∈ r.1, l.getD j false = true) (hq : ∀ r, T[i]? = some r → q ∉ r.1) (hV : ∀ j, j ≠ q → V j = V2 j) :
    execOp (updA a (slotOf ps) l V).eval o = execOp (updA a (slotOf ps) (List.replicate m true ++ [false]) V2).eval o ∧ o.guard = none ∧ ∃ N, o.dst = some N ∧ onceB ps N i = true := by
  unfold simpleB at hs
  rw [ho] at hs
  simp only [Bool.and_eq_true] at hs
  obtain ⟨⟨⟨hg, hd1⟩, hsel⟩, hops⟩ := hs
  refine ⟨execOp_congr o (fun cs b e => ?_) (fun x hx => ?_), by simpa using hg, ?_⟩
  · rw [e] at hsel; cases hsel
  · have hx' := List.all_eq_true.1 hops x (by simpa using hx)
    cases x with
    | tmp M =>
      simp only at hx'
      cases hM : slotOf ps M with
      | none => rw [updA_old a _ l V M hM, updA_old a _ _ V2 M hM]
      | some j =>
        rw [hM] at hx'
        simp only at hx'
        cases hr : T[i]? with
        | none => rw [hr] at hx'; cases hx'
        | some r =>
          rw [hr] at hx'
          have hj : j ∈ r.1 := by simpa using hx'
          have hjl := hd r hr j hj
          have hjm : j < i := by
            have h2 := List.all_eq_true.1 hl i (List.mem_range.2 (by omega))
            rw [hr] at h2
            exact of_decide_eq_true (List.all_eq_true.1 h2 j hj)
          have hjq : j ≠ q := fun e => hq r hr (e ▸ hj)
          have h3 : (List.replicate m true ++ [false]).getD j false = true := by
            rw [List.getD_eq_getElem?_getD, List.getElem?_append_left (by simp; omega), List.getElem?_replicate, if_pos (by omega)]
            rfl
          unfold updA updT Act.eval
          simp only [Array.getD_eq_getD_getElem?, Array.getElem?_mapIdx, hM, hjl, h3, if_true, hV j hjq]
    | const v => rfl
    | global g => rfl
    | func f => rfl
  · cases hN : o.dst with
    | none => rw [hN] at hd1; cases hd1
    | some N => rw [hN] at hd1; exact ⟨N, rfl, hd1⟩
theorem detB_spec {ops : Array Oper} {ps : List (Nat × Nat)} {m q : Nat} (h : detB ops ps m q = true) : lowB (rtab .any ops).2 = true ∧ (rtab .any ops).2.length = m + 1 ∧ (match (rtab .any ops).2[m]? with | some r => (List.range m).all (fun j => r.1.contains j) | none => false) = true ∧ (ps.all (fun p => decide (p.2 < m + 1) && onceB ps p.1 p.2)) = true ∧
    ps.foldl (fun l p => l.set p.2 true) (List.replicate (m + 1) false) = List.replicate m true ++ [false] ∧ (∀ i, i < m → i ≠ q → simpleB ops (rtab .any ops).2 ps i = true) ∧ (∀ i, i < m → ∀ r, (rtab .any ops).2[i]? = some r → q ∉ r.1) := by
  unfold detB at h
  simp only [Bool.and_eq_true, beq_iff_eq] at h
  obtain ⟨⟨⟨⟨⟨⟨h1, h2⟩, h3⟩, h4⟩, h5⟩, h6⟩, h7⟩ := h
  refine ⟨h1, h2, h3, h4, h5, fun i hi hq => ?_, fun i hi r hr hc => ?_⟩
  · have := List.all_eq_true.1 h6 i (List.mem_range.2 hi)
    rw [Bool.or_eq_true] at this
    rcases this with e | e
    · exact absurd (by simpa using e) hq
    · exact e
  · have := List.all_eq_true.1 h7 i (List.mem_range.2 hi)
    rw [hr] at this
    simp [hc] at this
theorem full_act {ps : List (Nat × Nat)} {m : Nat} {a : Act} {V : Nat → Value} (hps : (ps.all (fun p => decide (p.2 < m + 1) && onceB ps p.1 p.2)) = true) (hfold : ps.foldl (fun l p => l.set p.2 true) (List.replicate (m + 1) false) = List.replicate m true ++ [false]) :
    putAll a (ps.map (fun p => (p.1, V p.2))) = updA a (slotOf ps) (List.replicate m true ++ [false]) V := by
  rw [← updA_start a (slotOf ps) (m + 1) V, putAll_upd a (slotOf ps) V ps _ (fun p hp => ?_), hfold, updA_start]
  have := List.all_eq_true.1 hps p hp
  rw [Bool.and_eq_true] at this
  obtain ⟨h1, h2⟩ := this
  exact ⟨by simpa using h1, (once_slot h2).1, (once_slot h2).2⟩
section
variable {P : Program} {ops : Array Oper} {Q : Exit → Act → World → Prop} {a F : Act} {w w0 : World} {L : List (Nat × Array Value × Nat)} {id : Nat}
/-- A step of a simple operation, of any act that has come so far. -/
theorem step_simple {I : World → Prop} {K' : Act → World → Prop} {ps : List (Nat × Nat)} {V V2 : Nat → Value} {l : List Bool} {m i q : Nat} {w' : World} (hB : detB ops ps m q = true) (hi : i < m) (hiq : i ≠ q) (hln : l.length = m + 1)
    (hd : ∀ r, (rtab .any ops).2[i]? = some r → ∀ j ∈ r.1, l.getD j false = true) (hV : ∀ j, j ≠ q → V j = V2 j) (hF : putAll a (ps.map (fun p => (p.1, V2 p.2))) = F) (hst : Step1 P ops F V2 I w' i)
    (hK : ∀ w1, I w1 → K' (updA a (slotOf ps) (l.set i true) V) w1) : wpOp P ops Q i K' (updA a (slotOf ps) l V) w' := by
  obtain ⟨h1, h2, h3, h4, h5, h6, h7⟩ := detB_spec hB
  cases ho : ops[i]? with
  | none => unfold Step1 at hst; rw [ho] at hst; exact hst.elim
  | some o =>
    obtain ⟨hev, hg, N, hN, hon⟩ := eval_simple (a := a) ho (h6 i hi hiq) h1 hi h2 hd (h7 i hi) hV
    obtain ⟨q1, q2⟩ := once_slot hon
    rw [← full_act h4 h5, hF] at hev
    refine wpOp_step ho (fun K hKK => ?_)
    have hw : Region.wanted o (yielded ops (updA a (slotOf ps) l V).tmps) = true := by
      unfold Region.wanted
      rw [hg]
    rw [if_pos hw]
    unfold Oper.wp
    rw [hev]
    unfold Step1 at hst
    rw [ho] at hst
    replace hst : StepV P o F.eval w' (V2 i) I := hst
    unfold StepV at hst
    have hput : ∀ w1, I w1 → K ((updA a (slotOf ps) l V).put o.dst (V2 i)) w1 := fun w1 h => by
      have e : (updA a (slotOf ps) l V).put o.dst (V2 i) = updA a (slotOf ps) (l.set i true) V := by
        rw [hN, ← hV i hiq]; exact updA_put_same a _ l V i N (by omega) q1 q2
      rw [e]
      exact hKK _ _ (hK w1 h)
    generalize (execOp F.eval o).run P w' = R at hst ⊢
    cases R with
    | halt x w1 => exact hst.elim
    | ok n w1 =>
      cases n with
      | value u =>
        obtain ⟨rfl, h⟩ := hst
        exact hput w1 h
      | enter f args =>
        refine Calls.mono hst (fun e w2 he => ?_)
        obtain ⟨rfl, h⟩ := he
        exact hput w2 h
      | _ => exact hst.elim
/-- The last operation writes a box. -/
theorem last_store {g t m : Nat} {cs cs' : Array Value} {ty : TypeId} {p v : Operand} {u : Value} {seg : List Value} {o : Oper} (i j : Nat) (HB : Bx w0 w L) (hi : L[i]? = some (g, cs, t)) (hm : (rtab .any ops).2.length = m + 1) (ho : ops[m]? = some o) (hop : o.op = .store ty p v) (hgd : o.guard = none) (hN : o.dst = none)
    (hlast : (match (rtab .any ops).2[m]? with | some r => (List.range m).all (fun j => r.1.contains j) | none => false) = true) (hl : lowB (rtab .any ops).2 = true)
    (hp : F.eval p = .pointer (some ⟨g, j, none⟩)) (hv : F.eval v = u) (hu : u.cells.toList = seg) (ht : (P.info? ty).map (·.size) = some seg.length) (h1 : ∀ q ∈ seg, q.oneCell' = true) (hj : j + seg.length ≤ cs.size) (he : cs'.toList = cs.toList.take j ++ seg ++ cs.toList.drop (j + seg.length))
    (h : ∀ w1, Bx w0 w1 (L.set i (g, cs', t)) → Q .normal F w1) : wpAnyLast P .any ops Q (fun _ => True) [] 1 (List.replicate m true ++ [false]).toArray F w := by
  have hsz : ops.size = m + 1 := by rw [← hm, rtab_length]
  have hlow : ∀ r, (rtab .any ops).2[m]? = some r → ∀ k ∈ r.1, k < m := fun r hr k hk => by
    have h2 := List.all_eq_true.1 hl m (List.mem_range.2 (by omega))
    rw [hr] at h2
    exact of_decide_eq_true (List.all_eq_true.1 h2 k hk)
  have hready : Region.ready .any ops (List.replicate m true ++ [false]).toArray = [m] := by
    rw [ready_eq]
    unfold readyT
    rw [hm, List.range_succ, List.filter_append]
    have e1 : (List.range m).filter (readyAt (rtab .any ops).2 (List.replicate m true ++ [false]).toArray.toList) = [] := by
      refine List.filter_eq_nil_iff.2 (fun k hk => ?_)
      have hkm := List.mem_range.1 hk
      unfold readyAt
      rw [List.getD_eq_getElem?_getD, List.getElem?_append_left (by simp; omega), List.getElem?_replicate, if_pos hkm]
      simp
    have e2 : readyAt (rtab .any ops).2 (List.replicate m true ++ [false]).toArray.toList m = true := by
      unfold readyAt
      cases hr : (rtab .any ops).2[m]? with
      | none => rw [hr] at hlast; cases hlast
      | some r =>
        simp only [List.getD_eq_getElem?_getD, Bool.and_eq_true]
        refine ⟨by simp, List.all_eq_true.2 (fun k hk => ?_)⟩
        have := hlow r hr k hk
        rw [List.getElem?_append_left (by simp; omega), List.getElem?_replicate, if_pos this]
        rfl
    rw [e1, List.filter_cons, e2]
    rfl
  refine wpAnyLast_ready hready (by simp) (AllReadyL.cons ho (by simp) (fun K hK => ?_) AllReadyL.nil)
  have hrun : (execOp F.eval o).run P w = .ok .skip (w.setCells g j seg) := by
    unfold execOp
    simp only [hop, hp, hv, Sem.run_bind, run_store_run ty u seg (HB.get i hi) hu ht hj h1]
    rfl
  rw [if_pos (by unfold Region.wanted; rw [hgd])]
  unfold Oper.wp
  rw [hrun]
  show K (F.put o.dst undef) _
  rw [hN]
  · refine hK.out _ _ trivial (fun _ => ?_)
    refine wpAnyLast_done ?_ (h _ (HB.put i hi j hj he)) 0
    rw [ready_eq]
    unfold readyT
    refine List.filter_eq_nil_iff.2 (fun k hk => ?_)
    have hkm := List.mem_range.1 hk
    rw [hm] at hkm
    unfold readyAt
    rw [Array.toList_setIfInBounds, List.getD_eq_getElem?_getD]
    by_cases c : m = k
    · subst c
      rw [List.getElem?_set_self (by simp)]
      simp
    · rw [List.getElem?_set_ne c, List.getElem?_append_left (by simp; omega), List.getElem?_replicate, if_pos (by omega)]
      simp
/-- A REGION OF m SIMPLE OPERATIONS, IN WHATEVER ORDER, AND A STORE INTO A BOX BEHIND THEM. F: the act when all have come up. -/
theorem detS_ {g t : Nat} {cs cs' : Array Value} {u : Value} {seg : List Value} (m : Nat) (ps : List (Nat × Nat)) (V : Nat → Value) (ty : TypeId) (p v : Operand) (hF : putAll a (ps.map (fun p => (p.1, V p.2))) = F) (hm1 : P.follows .mixedOrders = true) (hB : detB ops ps m m = true) (HB : Bx w0 w L)
    (hstep : ∀ (I : World → Prop), (∀ w w1, I w → Below w.heap.size w w1 → I w1) → ∀ w', I w' → Bx w0 w' L → StepsV P ops F V I w' (List.range m))
    (i j : Nat) (hi : L[i]? = some (g, cs, t)) (hlo : (ops[m]?).map (fun o => (o.op, o.guard, o.dst)) = some (.store ty p v, none, none))
    (hp : F.eval p = .pointer (some ⟨g, j, none⟩)) (hv : F.eval v = u) (hu : u.cells.toList = seg) (ht : (P.info? ty).map (·.size) = some seg.length) (h1 : ∀ q ∈ seg, q.oneCell' = true) (hj : j + seg.length ≤ cs.size) (he : cs'.toList = cs.toList.take j ++ seg ++ cs.toList.drop (j + seg.length))
    (h : ∀ w1, Bx w0 w1 (L.set i (g, cs', t)) → Q .normal F w1) : (Code.region id ops true).wp P Q a w := by
  obtain ⟨h1', h2, h3, h4, h5, h6, h7⟩ := detB_spec hB
  obtain ⟨o, ho, hlo⟩ := Option.map_eq_some_iff.1 hlo
  simp only [Prod.mk.injEq] at hlo
  obtain ⟨hop, hgd, hN⟩ := hlo
  have hsz : ops.size = m + 1 := by rw [← h2, rtab_length]
  refine start_ (S := fun _ => True) (ds := []) (n := m + 1) (List.replicate (m + 1) false).toArray hm1 hsz (by simp) trivial (fun _ => ?_)
  refine last_inv (fun _ => trivial) rfl h1' m h2 h3 (fun l a' w' => a' = updA a (slotOf ps) l V ∧ Bx w0 w' L) ?_ ?_ m _ a w.drew (by simp) (by simp [List.getD_eq_getElem?_getD]) (by simp) ⟨(updA_start a _ (m + 1) V).symm, HB.drew⟩
  · rintro a' w' ⟨rfl, hI⟩
    rw [← full_act h4 h5, hF]
    exact last_store i j hI hi h2 ho hop hgd hN h3 h1' hp hv hu ht h1 hj he h
  · rintro l a' w' hn ⟨rfl, hI⟩ k hk hf hd
    exact step_simple hB hk (by omega) hn hd (fun _ _ => rfl) hF ((hstep (fun w' => Bx w0 w' L) (fun _ _ q r => q.below r) w' hI hI).at k (List.mem_range.2 hk)) (fun w1 q => ⟨rfl, q⟩)
/-- THE SAME, one of the operations (q) making a box, whose pointer the last one alone reads; the last one writes it. -/
theorem detA_ {cs cs' : Array Value} {u : Value} {seg : List Value} {G : Nat → Act} (m q : Nat) (ps : List (Nat × Nat)) (V : Nat → Value) (el ty : TypeId) (p v : Operand) (hG : ∀ g, putAll a (ps.map (fun p => (p.1, setV V q (.pointer (some ⟨g, 0, none⟩)) p.2))) = G g) (hm1 : P.follows .mixedOrders = true) (hB : detB ops ps m q = true) (HB : Bx w0 w L)
    (hq : q < m) (hoq : (ops[q]?).map (fun o => (o.op, o.guard, match o.dst with | some N => onceB ps N q | none => false)) = some (.alloc el, none, true)) (hz : ((P.info? el).map (·.zero) = some (some (.agg cs))) ∧ (Value.agg cs).cells = cs)
    (hstep : ∀ (I : World → Prop), (∀ w w1, I w → Below w.heap.size w w1 → I w1) → ∀ w', I w' → Bx w0 w' L → StepsV P ops (G 0) (setV V q (.pointer (some ⟨0, 0, none⟩))) I w' ((List.range m).filter (fun k => k != q)))
    (j : Nat) (hlo : (ops[m]?).map (fun o => (o.op, o.guard, o.dst)) = some (.store ty p v, none, none))
    (hp : ∀ g, (G g).eval p = .pointer (some ⟨g, j, none⟩)) (hv : ∀ g, (G g).eval v = u) (hu : u.cells.toList = seg) (ht : (P.info? ty).map (·.size) = some seg.length) (h1 : ∀ q ∈ seg, q.oneCell' = true) (hj : j + seg.length ≤ cs.size) (he : cs'.toList = cs.toList.take j ++ seg ++ cs.toList.drop (j + seg.length))
    (h : ∀ g w1, Bx w0 w1 ((g, cs', el) :: L) → Q .normal (G g) w1) : (Code.region id ops true).wp P Q a w := by
  obtain ⟨h1', h2, h3, h4, h5, h6, h7⟩ := detB_spec hB
  obtain ⟨o, ho, hlo⟩ := Option.map_eq_some_iff.1 hlo
  obtain ⟨oq, hoq, hqq⟩ := Option.map_eq_some_iff.1 hoq
  simp only [Prod.mk.injEq] at hlo hqq
  obtain ⟨hop, hgd, hN⟩ := hlo
  obtain ⟨hqop, hqg, hqd⟩ := hqq
  have hsz : ops.size = m + 1 := by rw [← h2, rtab_length]
  refine start_ (S := fun _ => True) (ds := []) (n := m + 1) (List.replicate (m + 1) false).toArray hm1 hsz (by simp) trivial (fun _ => ?_)
  refine last_inv (fun _ => trivial) rfl h1' m h2 h3 (fun l a' w' => (l.getD q false = false ∧ a' = updA a (slotOf ps) l (setV V q (.pointer (some ⟨0, 0, none⟩))) ∧ Bx w0 w' L) ∨ (l.getD q false = true ∧ ∃ g, a' = updA a (slotOf ps) l (setV V q (.pointer (some ⟨g, 0, none⟩))) ∧ Bx w0 w' ((g, cs, el) :: L))) ?_ ?_ m _ a w.drew (by simp) (by simp [List.getD_eq_getElem?_getD]) (by simp) (.inl ⟨by show (List.replicate (m + 1) false).getD q false = false; rw [List.getD_eq_getElem?_getD, List.getElem?_replicate]; split <;> rfl, (updA_start a _ (m + 1) _).symm, HB.drew⟩)
  · rintro a' w' (⟨hl, _⟩ | ⟨_, g, rfl, hI⟩)
    · exfalso
      rw [List.getD_eq_getElem?_getD, List.getElem?_append_left (by simp; omega), List.getElem?_replicate, if_pos hq] at hl
      cases hl
    · rw [← full_act h4 h5, hG g]
      exact last_store (i := 0) (j := j) hI rfl h2 ho hop hgd hN h3 h1' (hp g) (hv g) hu ht h1 hj he (h g)
  · rintro l a' w' hn hI k hk hf hd
    have hff : l.getD k false = false := by
      have hi' : k < l.length := by omega
      rw [List.getD_eq_getElem?_getD, List.getElem?_eq_getElem hi'] at hf ⊢
      simpa using hf
    by_cases c : k = q
    · subst c
      rcases hI with ⟨_, rfl, hI⟩ | ⟨hl, _⟩
      · refine wpOp_step hoq (fun K hKK => ?_)
        cases hN' : oq.dst with
        | none => rw [hN'] at hqd; cases hqd
        | some N =>
          rw [hN'] at hqd
          obtain ⟨q1, q2⟩ := once_slot hqd
          obtain ⟨inf, hinf, hzero⟩ := Option.map_eq_some_iff.1 hz.1
          refine value_ (w1 := w'.alloc (.cells cs el (0, 0))) (v := .pointer (some ⟨w'.heap.size, 0, none⟩)) (by unfold Region.wanted; rw [hqg]) hN' ?_ (hKK _ _ (.inr ⟨by rw [List.getD_eq_getElem?_getD, List.getElem?_set_self (by omega)]; rfl, w'.heap.size, ?_, hI.new rfl (blk_new _ _) (below_alloc (Below.refl _ _) _)⟩))
          · unfold execOp
            simp [hqop, Instr.alloc, zeroValue, typeInfo, hinf, hzero, newVar, newRow, hz.2]
          · rw [updA_put a _ l _ k N _ (by omega) q1 q2]
            congr 1
            funext j
            unfold setV
            split <;> rfl
      · rw [hff] at hl; cases hl
    · rcases hI with ⟨hl, rfl, hI⟩ | ⟨hl, g, rfl, hI⟩
      · exact step_simple hB hk c hn hd (fun _ _ => rfl) (hG 0) ((hstep (fun w' => Bx w0 w' L) (fun _ _ q r => q.below r) w' hI hI).at k (List.mem_filter.2 ⟨List.mem_range.2 hk, by simpa using c⟩)) (fun w1 r => .inl ⟨by rw [List.getD_eq_getElem?_getD, List.getElem?_set_ne c, ← List.getD_eq_getElem?_getD]; exact hl, rfl, r⟩)
      · exact step_simple hB hk c hn hd (fun j hj => by rw [setV_other V _ hj, setV_other V _ hj]) (hG 0) ((hstep (fun w' => Bx w0 w' ((g, cs, el) :: L)) (fun _ _ q r => q.below r) w' hI hI.pop).at k (List.mem_filter.2 ⟨List.mem_range.2 hk, by simpa using c⟩)) (fun w1 r => .inr ⟨by rw [List.getD_eq_getElem?_getD, List.getElem?_set_ne c, ← List.getD_eq_getElem?_getD]; exact hl, g, rfl, r⟩)
end
theorem zip_map (ns : List Nat) (vs : List Value) (h : ns.length = vs.length) (V : Nat → Value) (hV : ∀ i, i < vs.length → V i = vs.getD i undef) : ns.zipIdx.map (fun p => (p.1, V p.2)) = ns.zip vs := by
  refine List.ext_getElem (by simp [h]) (fun i h1 h2 => ?_)
  have hi : i < vs.length := by simp at h2; omega
  rw [List.getElem_map, List.getElem_zipIdx, List.getElem_zip]
  simp only [Nat.zero_add, hV i hi, List.getD_eq_getElem?_getD, List.getElem?_eq_getElem hi, Option.getD_some]
section
variable {P : Program} {ops : Array Oper} {Q : Exit → Act → World → Prop} {a F : Act} {w w0 : World} {L : List (Nat × Array Value × Nat)} {id : Nat}
/-- THE SAME BY LISTS: ns the slots that the operations fill, vs what they yield. -/
theorem regS_ {g t : Nat} {cs cs' : Array Value} {u : Value} {seg : List Value} (ns : List Nat) (vs : List Value) (ty : TypeId) (p v : Operand) (hF : putAll a (ns.zip vs) = F) (hn : ns.length = vs.length) (hm1 : P.follows .mixedOrders = true) (hB : detB ops ns.zipIdx ns.length ns.length = true) (HB : Bx w0 w L)
    (hstep : ∀ (I : World → Prop), (∀ w w1, I w → Below w.heap.size w w1 → I w1) → ∀ w', I w' → Bx w0 w' L → StepsV P ops F (fun i => vs.getD i undef) I w' (List.range ns.length))
    (i j : Nat) (hi : L[i]? = some (g, cs, t)) (hlo : (ops[ns.length]?).map (fun o => (o.op, o.guard, o.dst)) = some (.store ty p v, none, none))
    (hp : F.eval p = .pointer (some ⟨g, j, none⟩)) (hv : F.eval v = u) (hu : u.cells.toList = seg) (ht : (P.info? ty).map (·.size) = some seg.length) (h1 : ∀ q ∈ seg, q.oneCell' = true) (hj : j + seg.length ≤ cs.size) (he : cs'.toList = cs.toList.take j ++ seg ++ cs.toList.drop (j + seg.length))
    (h : ∀ w1, Bx w0 w1 (L.set i (g, cs', t)) → Q .normal F w1) : (Code.region id ops true).wp P Q a w :=
  detS_ ns.length ns.zipIdx (fun i => vs.getD i undef) ty p v (by rw [zip_map ns vs hn _ (fun _ _ => rfl)]; exact hF) hm1 hB HB hstep i j hi hlo hp hv hu ht h1 hj he h
theorem regA_ {cs cs' : Array Value} {u : Value} {seg : List Value} {G : Nat → Act} (q : Nat) (ns : List Nat) (vs : List Value) (el ty : TypeId) (p v : Operand) (hG : ∀ g, putAll a (ns.zip (vs.set q (.pointer (some ⟨g, 0, none⟩)))) = G g) (hn : ns.length = vs.length) (hm1 : P.follows .mixedOrders = true) (hB : detB ops ns.zipIdx ns.length q = true) (HB : Bx w0 w L)
    (hq : q < ns.length) (hoq : (ops[q]?).map (fun o => (o.op, o.guard, match o.dst with | some N => onceB ns.zipIdx N q | none => false)) = some (.alloc el, none, true)) (hz : ((P.info? el).map (·.zero) = some (some (.agg cs))) ∧ (Value.agg cs).cells = cs)
    (hstep : ∀ (I : World → Prop), (∀ w w1, I w → Below w.heap.size w w1 → I w1) → ∀ w', I w' → Bx w0 w' L → StepsV P ops (G 0) (setV (fun i => vs.getD i undef) q (.pointer (some ⟨0, 0, none⟩))) I w' ((List.range ns.length).filter (fun k => k != q)))
    (j : Nat) (hlo : (ops[ns.length]?).map (fun o => (o.op, o.guard, o.dst)) = some (.store ty p v, none, none))
    (hp : ∀ g, (G g).eval p = .pointer (some ⟨g, j, none⟩)) (hv : ∀ g, (G g).eval v = u) (hu : u.cells.toList = seg) (ht : (P.info? ty).map (·.size) = some seg.length) (h1 : ∀ q ∈ seg, q.oneCell' = true) (hj : j + seg.length ≤ cs.size) (he : cs'.toList = cs.toList.take j ++ seg ++ cs.toList.drop (j + seg.length))
    (h : ∀ g w1, Bx w0 w1 ((g, cs', el) :: L) → Q .normal (G g) w1) : (Code.region id ops true).wp P Q a w :=
  detA_ ns.length q ns.zipIdx (fun i => vs.getD i undef) el ty p v (fun g => by
    rw [← hG g, zip_map ns (vs.set q (.pointer (some ⟨g, 0, none⟩))) (by simpa using hn) _ (fun i hi => ?_)]
    unfold setV
    by_cases c : i = q
    · subst c; rw [if_pos rfl, List.getD_eq_getElem?_getD, List.getElem?_set_self (by omega)]; rfl
    · rw [if_neg c, List.getD_eq_getElem?_getD, List.getElem?_set_ne (Ne.symm c), ← List.getD_eq_getElem?_getD]) hm1 hB HB hq hoq hz hstep j hlo hp hv hu ht h1 hj he h
end
/-- Operation q reads old slots, and those that it waits for. -/
def readsB (ops : Array Oper) (T : List (List Nat × List Nat)) (ps : List (Nat × Nat)) (i : Nat) : Bool := match ops[i]? with
  | some o => (match o.op with | .select _ _ => false | _ => true) && o.op.operands.toList.all (fun x => match x with
    | .tmp N => (match slotOf ps N with | none => true | some j => (match T[i]? with | some r => r.1.contains j | none => false))
    | _ => true)
  | none => false
theorem eval_reads {ops : Array Oper} {ps : List (Nat × Nat)} {T : List (List Nat × List Nat)} {a : Act} {V : Nat → Value} {l L0 : List Bool} {i : Nat} {o : Oper} (ho : ops[i]? = some o) (hs : readsB ops T ps i = true)
    (hd : ∀ r, T[i]? = some r → ∀ j ∈ r.1, l.getD j false = true ∧ L0.getD j false = true) :
    execOp (updA a (slotOf ps) l V).eval o = execOp (updA a (slotOf ps) L0 V).eval o := by
  unfold readsB at hs
  rw [ho] at hs
  simp only [Bool.and_eq_true] at hs
  obtain ⟨hsel, hops⟩ := hs
  refine execOp_congr o (fun cs b e => ?_) (fun x hx => ?_)
  · rw [e] at hsel; cases hsel
  · have hx' := List.all_eq_true.1 hops x (by simpa using hx)
    cases x with
    | tmp M =>
      simp only at hx'
      cases hM : slotOf ps M with
      | none => rw [updA_old a _ l V M hM, updA_old a _ _ V M hM]
      | some j =>
        rw [hM] at hx'
        simp only at hx'
        cases hr : T[i]? with
        | none => rw [hr] at hx'; cases hx'
        | some r =>
          rw [hr] at hx'
          have hj : j ∈ r.1 := by simpa using hx'
          obtain ⟨q1, q2⟩ := hd r hr j hj
          unfold updA updT Act.eval
          simp only [Array.getD_eq_getD_getElem?, Array.getElem?_mapIdx, hM, q1, q2, if_true]
    | const v => rfl
    | global g => rfl
    | func f => rfl
theorem updA_oob (a : Act) (D : Nat → Option Nat) (l : List Bool) (V : Nat → Value) (q : Nat) (h : ∀ N, D N = some q → a.tmps.size ≤ N) : updA a D (l.set q true) V = updA a D l V := by
  unfold updA updT
  congr 1
  refine Array.ext (by simp) (fun k h1 h2 => ?_)
  rw [Array.getElem_mapIdx, Array.getElem_mapIdx]
  cases hk : D k with
  | none => rfl
  | some j =>
    have hks : k < a.tmps.size := by simpa using h1
    have hj : j ≠ q := fun e => by have := h k (e ▸ hk); omega
    simp only [List.getD_eq_getElem?_getD, List.getElem?_set_ne (Ne.symm hj)]
section
variable {P : Program} {ops : Array Oper} {Q : Exit → Act → World → Prop} {a F : Act} {w w0 : World} {L : List (Nat × Array Value × Nat)} {id : Nat}
/-- A REGION OF q SIMPLE OPERATIONS, A STORE INTO A BOX, AND AN ASSIGNMENT BEHIND THEM (return x, f(x)). ns: the slots, the last of them none of the act's (the store's). -/
theorem regT_ {g t : Nat} {cs cs' : Array Value} {u : Value} {seg : List Value} (ns : List Nat) (vs : List Value) (q N : Nat) (ty : TypeId) (p v x : Operand) (hF : putAll a (ns.zip vs) = F) (hn : ns.length = vs.length) (hq : ns.length = q + 1)
    (hm1 : P.follows .mixedOrders = true) (hB : detB ops ns.zipIdx ns.length q = true) (hr : readsB ops (rtab .any ops).2 ns.zipIdx q = true) (hz : a.tmps.size ≤ ns.getD q 0) (HB : Bx w0 w L)
    (i j : Nat) (hi : L[i]? = some (g, cs, t)) (hlo : (ops[q]?).map (fun o => (o.op, o.guard, o.dst)) = some (.store ty p v, none, none))
    (hstep : ∀ (I : World → Prop), (∀ w w1, I w → Below w.heap.size w w1 → I w1) → ∀ w', I w' → ∀ L2, Bx w0 w' L2 → (L2 = L ∨ L2 = L.set i (g, cs', t)) → StepsV P ops F (fun i => vs.getD i undef) I w' (List.range q))
    (hp : F.eval p = .pointer (some ⟨g, j, none⟩)) (hv : F.eval v = u) (hu : u.cells.toList = seg) (ht : (P.info? ty).map (·.size) = some seg.length) (h1 : ∀ q ∈ seg, q.oneCell' = true) (hj : j + seg.length ≤ cs.size) (he : cs'.toList = cs.toList.take j ++ seg ++ cs.toList.drop (j + seg.length))
    (hla : (ops[ns.length]?).map (fun o => (o.op, o.guard, o.dst)) = some (.assign x, none, some N))
    (h : ∀ w1, Bx w0 w1 (L.set i (g, cs', t)) → Q .normal (F.put (some N) (F.eval x)) w1) : (Code.region id ops true).wp P Q a w := by
  obtain ⟨h1', h2, h3, h4, h5, h6, h7⟩ := detB_spec hB
  obtain ⟨o, ho, hlo⟩ := Option.map_eq_some_iff.1 hlo
  simp only [Prod.mk.injEq] at hlo
  obtain ⟨hop, hgd, hN⟩ := hlo
  obtain ⟨o2, ho2, hla⟩ := Option.map_eq_some_iff.1 hla
  simp only [Prod.mk.injEq] at hla
  obtain ⟨hop2, hgd2, hN2⟩ := hla
  have hFz : putAll a (ns.zipIdx.map (fun p => (p.1, vs.getD p.2 undef))) = F := by rw [← hF, zip_map ns vs hn _ (fun _ _ => rfl)]
  generalize hm : ns.length = m at *
  have hsz : ops.size = m + 1 := by rw [← h2, rtab_length]
  have hoob : ∀ N, slotOf ns.zipIdx N = some q → a.tmps.size ≤ N := fun N hN => by
    have hmem := List.mem_zipIdx (slotOf_mem hN)
    have : N = ns.getD q 0 := by
      rw [List.getD_eq_getElem?_getD, List.getElem?_eq_getElem (by omega)]
      simpa using hmem.2.2
    omega
  have hqd : ∀ r, (rtab .any ops).2[q]? = some r → ∀ k ∈ r.1, k < m := fun r hr' k hk => by
    have h2' := List.all_eq_true.1 h1' q (List.mem_range.2 (by omega))
    rw [hr'] at h2'
    have := of_decide_eq_true (List.all_eq_true.1 h2' k hk)
    omega
  refine start_ (S := fun _ => True) (ds := []) (n := m + 1) (List.replicate (m + 1) false).toArray hm1 hsz (by simp) trivial (fun _ => ?_)
  refine last_inv (fun _ => trivial) rfl h1' m h2 h3 (fun l a' w' => a' = updA a (slotOf ns.zipIdx) l (fun i => vs.getD i undef) ∧ ((l.getD q false = false ∧ Bx w0 w' L) ∨ (l.getD q false = true ∧ Bx w0 w' (L.set i (g, cs', t))))) ?_ ?_ m _ a w.drew (by simp) (by simp [List.getD_eq_getElem?_getD]) (by simp) ⟨(updA_start a _ (m + 1) _).symm, .inl ⟨by show (List.replicate (m + 1) false).getD q false = false; rw [List.getD_eq_getElem?_getD, List.getElem?_replicate]; split <;> rfl, HB.drew⟩⟩
  · rintro a' w' ⟨rfl, ⟨hl, _⟩ | ⟨_, hI⟩⟩
    · exfalso
      rw [List.getD_eq_getElem?_getD, List.getElem?_append_left (by simp; omega), List.getElem?_replicate, if_pos (by omega)] at hl
      cases hl
    · rw [← full_act h4 h5, hFz]
      have hlow : ∀ r, (rtab .any ops).2[m]? = some r → ∀ k ∈ r.1, k < m := fun r hr k hk => by
        have h2' := List.all_eq_true.1 h1' m (List.mem_range.2 (by omega))
        rw [hr] at h2'
        exact of_decide_eq_true (List.all_eq_true.1 h2' k hk)
      have hready : Region.ready .any ops (List.replicate m true ++ [false]).toArray = [m] := by
        rw [ready_eq]
        unfold readyT
        rw [h2, List.range_succ, List.filter_append]
        have e1 : (List.range m).filter (readyAt (rtab .any ops).2 (List.replicate m true ++ [false]).toArray.toList) = [] := by
          refine List.filter_eq_nil_iff.2 (fun k hk => ?_)
          have hkm := List.mem_range.1 hk
          unfold readyAt
          rw [List.getD_eq_getElem?_getD, List.getElem?_append_left (by simp; omega), List.getElem?_replicate, if_pos hkm]
          simp
        have e2 : readyAt (rtab .any ops).2 (List.replicate m true ++ [false]).toArray.toList m = true := by
          unfold readyAt
          cases hr : (rtab .any ops).2[m]? with
          | none => rw [hr] at h3; cases h3
          | some r =>
            simp only [List.getD_eq_getElem?_getD, Bool.and_eq_true]
            refine ⟨by simp, List.all_eq_true.2 (fun k hk => ?_)⟩
            have := hlow r hr k hk
            rw [List.getElem?_append_left (by simp; omega), List.getElem?_replicate, if_pos this]
            rfl
        rw [e1, List.filter_cons, e2]
        rfl
      refine wpAnyLast_ready hready (by simp) (AllReadyL.cons ho2 (by simp) (fun K hK => ?_) AllReadyL.nil)
      have hrun : (execOp F.eval o2).run P w' = .ok (.value (F.eval x)) w' := by
        unfold execOp
        simp only [hop2]
        rfl
      rw [if_pos (by unfold Region.wanted; rw [hgd2])]
      unfold Oper.wp
      rw [hrun]
      show K (F.put o2.dst (F.eval x)) _
      rw [hN2]
      refine hK.out _ _ trivial (fun _ => ?_)
      refine wpAnyLast_done ?_ (h _ hI) 0
      rw [ready_eq]
      unfold readyT
      refine List.filter_eq_nil_iff.2 (fun k hk => ?_)
      have hkm := List.mem_range.1 hk
      rw [h2] at hkm
      unfold readyAt
      rw [Array.toList_setIfInBounds, List.getD_eq_getElem?_getD]
      by_cases c : m = k
      · subst c
        rw [List.getElem?_set_self (by simp)]
        simp
      · rw [List.getElem?_set_ne c, List.getElem?_append_left (by simp; omega), List.getElem?_replicate, if_pos (by omega)]
        simp
  · rintro l a' w' hn' ⟨rfl, hI⟩ k hk hf hd
    have hff : l.getD k false = false := by
      have hi' : k < l.length := by omega
      rw [List.getD_eq_getElem?_getD, List.getElem?_eq_getElem hi'] at hf ⊢
      simpa using hf
    by_cases c : k = q
    · subst c
      rcases hI with ⟨_, hI⟩ | ⟨hl, _⟩
      · refine wpOp_step ho (fun K hKK => ?_)
        have hev := eval_reads (a := a) (V := fun i => vs.getD i undef) (l := l) (L0 := List.replicate m true ++ [false]) ho hr (fun r hr' j hj => ⟨hd r hr' j hj, by
          rw [List.getD_eq_getElem?_getD, List.getElem?_append_left (by simp; exact hqd r hr' j hj), List.getElem?_replicate, if_pos (hqd r hr' j hj)]
          rfl⟩)
        rw [← full_act h4 h5, hFz] at hev
        have hrun : (execOp F.eval o).run P w' = .ok .skip (w'.setCells g j seg) := by
          unfold execOp
          simp only [hop, hp, hv, Sem.run_bind, run_store_run ty u seg (hI.get i hi) hu ht hj h1]
          rfl
        rw [if_pos (by unfold Region.wanted; rw [hgd])]
        unfold Oper.wp
        rw [hev, hrun]
        show K ((updA a (slotOf ns.zipIdx) l (fun i => vs.getD i undef)).put o.dst undef) _
        rw [hN]
        exact hKK _ _ ⟨(updA_oob a _ l _ k hoob).symm, .inr ⟨by rw [List.getD_eq_getElem?_getD, List.getElem?_set_self (by omega)]; rfl, hI.put i hi j hj he⟩⟩
      · rw [hff] at hl; cases hl
    · have hkq : k < q := by omega
      rcases hI with ⟨hl, hI⟩ | ⟨hl, hI⟩
      · exact step_simple hB hk c hn' hd (fun _ _ => rfl) hFz ((hstep (fun w' => Bx w0 w' L) (fun _ _ q r => q.below r) w' hI L hI (.inl rfl)).at k (List.mem_range.2 hkq)) (fun w1 r => ⟨rfl, .inl ⟨by rw [List.getD_eq_getElem?_getD, List.getElem?_set_ne c, ← List.getD_eq_getElem?_getD]; exact hl, r⟩⟩)
      · exact step_simple hB hk c hn' hd (fun _ _ => rfl) hFz ((hstep (fun w' => Bx w0 w' (L.set i (g, cs', t))) (fun _ _ q r => q.below r) w' hI _ hI (.inr rfl)).at k (List.mem_range.2 hkq)) (fun w1 r => ⟨rfl, .inr ⟨by rw [List.getD_eq_getElem?_getD, List.getElem?_set_ne c, ← List.getD_eq_getElem?_getD]; exact hl, r⟩⟩)
end
set_option maxHeartbeats 4000000 in
set_option maxRecDepth 100000 in
/-- One word. -/
theorem readInstr_one (ws : List ByteArray) (A : Option Addr) (c : Nat) (w : World) (hT : Tabs w) (hC : Kd.C Kd.string w A ws.length ws) (h : ws.length = 1) (hm : (rng (plc ow (ws.getD 0 ByteArray.empty) 0 + 1)).2.2 = false) :
    Calls Tryd.prog 9 #[.slice A ws.length c] w fun e w' => e = .returned (.tuple #[.agg #[.int .i64 (plc ow (ws.getD 0 ByteArray.empty) 0 + 1), .int .i64 0], .bool (instrb (plc ow (ws.getD 0 ByteArray.empty) 0 + 1) 0)]) ∧ Below w.heap.size w w' := by
  have hu23 := Tryd.underlying23
  have HX := Aside0.mk (Bx.nil w)
  have HT := Aside0.mk hT
  obtain ⟨ad, rfl, hcell⟩ := str_at hC 0 (by omega) (by omega)
  obtain ⟨s, hs⟩ : ∃ s, s = ws.getD 0 ByteArray.empty := ⟨_, rfl⟩
  have e_ : ad.add 0 = ad := by cases ad; first | rfl | simp [Addr.add]
  have hcell0 : w.cell? ad = some (.string s) := (show w.cell? ad = w.cell? (ad.add 0) by rw [e_]).trans (by rw [hs]; exact hcell)
  have HCL := Aside0.mk hcell0
  rw [← hs] at hm ⊢
  obtain ⟨op, hop⟩ : ∃ op, op = plc ow s 0 + 1 := ⟨_, rfl⟩
  rw [← hop] at hm ⊢
  have HOP := Aside0.mk (OpOf_calls s)
  rw [← hop] at HOP
  have HHAS := Aside0.mk (impl_hasOperand.calls 3 op _ · (hasOp_f op))
  have c2e : ((ws.length : Int) == 2) = false := beq_eq_false_iff_ne.mpr (by omega)
  rw [hm] at HHAS
  have HOK := Aside0.mk (impl_InstrOK.calls 3 op 0 _ · (impl_instr 3 (by omega) op 0))
  have c0b : ((ws.length : Int) == 0) = false := beq_eq_false_iff_ne.mpr (by omega)
  have c2b : decide ((2 : Int) < (ws.length : Int)) = false := decide_eq_false (by omega)
  have c3b : decide ((ws.length : Int) > 2) = false := decide_eq_false (by omega)
  have q5 : ((0 : Int) < (ws.length : Int)) = True := eq_true (by omega)
  have q6 : (0 < ws.length) = True := eq_true (by omega)
  have q7 : (ws = []) = False := eq_false (fun e => by rw [e] at h; simp at h)
  clear h hC hcell hs hop hT hm
  go_enter Tryd.func9, Tryd.ntmps9
  go_wp2_with (first
    | ((with_reducible refine gate_dst (N := 2) rfl ?_); refine bxV (N := 2) (cs := #[.int .i64 0, .int .i64 0]) (t := 23) (fun g => .pointer (some ⟨g, 0, none⟩)) rfl rfl HX.out ?h2 ?_; (case h2 => first | (go_simp; done) | (go_simp; rfl)); clear HX; intro b2 w5 HX; have hcl : w5.cell? ad = some (.string s) := ((HX.out.1.cell (World.block_lt_of_cell? w _ HCL.out)).trans HCL.out))
    | (go_at_call 18; refine (HOP.out _ (HT.out.below HX.out.1).1).mono ?_; rintro e w6 ⟨rfl, hb_⟩; have n_ := Aside0.mk (HX.out.below hb_); clear HX hb_ hcl; have HX := n_; clear n_)
    | ((with_reducible refine gate_dst (N := 4) rfl ?_); refine bxV (N := 4) (cs := #[.int .i64 0, .int .i64 0]) (t := 23) (fun g => .pointer (some ⟨g, 0, none⟩)) rfl rfl HX.out ?h4 ?_; (case h4 => first | (go_simp; done) | (go_simp; rfl)); clear HX; intro b4 w7 HX)
    | ((with_reducible refine gate_store (t := 23) (p := 4) rfl ?_); refine stE (cs' := #[.int .i64 op, .int .i64 0]) (u := .agg #[.int .i64 op, .int .i64 0]) (seg := [.int .i64 op, .int .i64 0]) 0 0 HX.out rfl rfl rfl rfl rfl rfl rfl (by kernel_rfl) (by intro q hq; simp only [List.mem_cons, List.not_mem_nil, or_false] at hq; rcases hq with rfl | rfl <;> rfl) (Nat.le_refl 2) rfl ?_; intro w8 h1; have n_ : Aside0 (Bx w w8 [(b4, #[.int .i64 op, .int .i64 0], 23), (b2, #[.int .i64 0, .int .i64 0], 23)]) := ⟨h1⟩; clear HX h1; have HX := n_; clear n_; have hcz : w8.cell? ⟨b4, 0, none⟩ = some (.int .i64 op) := (blk_cell (HX.out.get 0 rfl) 0).trans rfl)
    | (go_at_call 19; refine (HHAS.out _).mono ?_; rintro e w9 ⟨rfl, q_, rfl⟩; have n_ := Aside0.mk (HX.out.drewN q_); clear HX hcz; have HX := n_; clear n_))
  refine regT_ [44, 45, 46, 47] [.agg #[.int .i64 op, .int .i64 0], .agg #[.int .i64 op, .int .i64 0], .bool (instrb op 0), undef] 3 3 23 (.tmp 2) (.tmp 44) (.tmp 46) (F := ?G) ?hG rfl rfl (by kernel_rfl) (by kernel_rfl) (by kernel_rfl) (Nat.le_refl _) HX.out (cs' := #[.int .i64 op, .int .i64 0]) (u := .agg #[.int .i64 op, .int .i64 0]) (seg := [.int .i64 op, .int .i64 0]) 1 0 rfl rfl ?st ?hp ?hv rfl (by kernel_rfl) (by intro q hq; simp only [List.mem_cons, List.not_mem_nil, or_false] at hq; rcases hq with rfl | rfl <;> rfl) (Nat.le_refl 2) rfl rfl ?nx
  case hG => simp only [putAll, List.zip_cons_cons, List.zip_nil_left, Act.put, List.setIfInBounds_toArray, List.set_cons_zero, List.set_cons_succ]; rfl
  case hp => rfl
  case hv => rfl
  case st =>
    intro I hI w' h0 L2 hX hL
    have g4 : L2[0]? = some (b4, #[.int .i64 op, .int .i64 0], 23) := by rcases hL with rfl | rfl <;> rfl
    refine ⟨st_ld rfl 0 hX g4 rfl rfl hu23 rfl (by kernel_rfl) rfl h0, st_ld rfl 0 hX g4 rfl rfl hu23 rfl (by kernel_rfl) rfl h0, st_call rfl Tryd.func21 (by kernel_rfl) rfl #[.agg #[.int .i64 op, .int .i64 0]] rfl ?c6, trivial⟩
    case c6 => exact (HOK.out _).mono (fun e w1 q => ⟨q.1, hI _ _ h0 q.2⟩)
  intro w10 h1
  have n_ := Aside0.mk h1
  clear HX h1
  have HX := n_
  clear n_
  go_wp2
  refine bodyPost_ret (results_ct rfl _ _ b2 23 #[.int .i64 op, .int .i64 0] (0, 0) _ rfl (HX.out.get 1 rfl) hu23 rfl (by kernel_rfl)) rfl ?_
  exact ⟨rfl, HX.out.1⟩
set_option maxHeartbeats 4000000 in
set_option maxRecDepth 100000 in
/-- Two words. -/
theorem readInstr_two_none (ws : List ByteArray) (A : Option Addr) (c : Nat) (w : World) (hT : Tabs w) (hC : Kd.C Kd.string w A ws.length ws) (h : ws.length = 2) (hsz : (ws.getD 1 ByteArray.empty).size ≤ 281474976710656) (hnum : numT (ws.getD 1 ByteArray.empty) = none) (hm : (rng (plc ow (ws.getD 0 ByteArray.empty) 0 + 1)).2.2 = true) :
    Calls Tryd.prog 9 #[.slice A ws.length c] w fun e w' => e = .returned (.tuple #[.agg #[.int .i64 0, .int .i64 0], .bool false]) ∧ Below w.heap.size w w' := by
  have hu23 := Tryd.underlying23
  have HX := Aside0.mk (Bx.nil w)
  have HT := Aside0.mk hT
  obtain ⟨ad, hA0, hcell⟩ := str_at hC 0 (by omega) (by omega)
  obtain ⟨ad1, hA1, hcell1⟩ := str_at hC 1 (by omega) (by omega)
  subst hA0
  obtain rfl := Option.some.inj hA1
  obtain ⟨s, hs⟩ : ∃ s, s = ws.getD 0 ByteArray.empty := ⟨_, rfl⟩
  have e_ : ad.add 0 = ad := by cases ad; first | rfl | simp [Addr.add]
  have hcell0 : w.cell? ad = some (.string s) := (show w.cell? ad = w.cell? (ad.add 0) by rw [e_]).trans (by rw [hs]; exact hcell)
  have HCL := Aside0.mk hcell0
  obtain ⟨s1, hs1⟩ : ∃ s, s = ws.getD 1 ByteArray.empty := ⟨_, rfl⟩
  replace hcell1 : w.cell? (ad.add 1) = some (.string (ws.getD 1 ByteArray.empty)) := hcell1
  rw [← hs1] at hcell1 hsz hnum
  have HC1 := Aside0.mk hcell1
  have HRD := Aside0.mk (show ∀ W, Tabs W → Calls Tryd.prog 20 #[.string s1] W fun e w' => (∃ n, e = .returned (.tuple #[.int .i64 n, .bool false])) ∧ Below W.heap.size W w' from fun W hT => (readDecimal_calls s1 hsz W hT.2.1 hT.2.2.1 hT.2.2.2).mono (fun e w' q => by
    obtain ⟨⟨n, b, rfl, q1, q0⟩, hb⟩ := q
    cases b
    · exact ⟨⟨n, rfl⟩, hb⟩
    · have := q1 rfl; rw [hnum] at this; cases this))
  rw [← hs] at hm
  obtain ⟨op, hop⟩ : ∃ op, op = plc ow s 0 + 1 := ⟨_, rfl⟩
  rw [← hop] at hm
  have HOP := Aside0.mk (OpOf_calls s)
  rw [← hop] at HOP
  have HHAS := Aside0.mk (impl_hasOperand.calls 3 op _ · (hasOp_f op))
  have c2e : ((ws.length : Int) == 2) = true := beq_iff_eq.mpr (by omega)
  rw [hm] at HHAS
  have c0b : ((ws.length : Int) == 0) = false := beq_eq_false_iff_ne.mpr (by omega)
  have c2b : decide ((2 : Int) < (ws.length : Int)) = false := decide_eq_false (by omega)
  have c3b : decide ((ws.length : Int) > 2) = false := decide_eq_false (by omega)
  have q5 : ((0 : Int) < (ws.length : Int)) = True := eq_true (by omega)
  have q6 : (0 < ws.length) = True := eq_true (by omega)
  have q7 : (ws = []) = False := eq_false (fun e => by rw [e] at h; simp at h)
  have q8 : ((1 : Int) < (ws.length : Int)) = True := eq_true (by omega)
  have q9 : (1 < ws.length) = True := eq_true (by omega)
  clear h hC hcell hcell1 hs hs1 hop hT hm hsz hA1 hnum
  go_enter Tryd.func9, Tryd.ntmps9
  go_wp2_with (first
    | ((with_reducible refine gate_dst (N := 2) rfl ?_); refine bxV (N := 2) (cs := #[.int .i64 0, .int .i64 0]) (t := 23) (fun g => .pointer (some ⟨g, 0, none⟩)) rfl rfl HX.out ?h2 ?_; (case h2 => first | (go_simp; done) | (go_simp; rfl)); clear HX; intro b2 w5 HX; have hcl : w5.cell? ad = some (.string s) := ((HX.out.1.cell (World.block_lt_of_cell? w _ HCL.out)).trans HCL.out))
    | (go_at_call 18; refine (HOP.out _ (HT.out.below HX.out.1).1).mono ?_; rintro e w6 ⟨rfl, hb_⟩; have n_ := Aside0.mk (HX.out.below hb_); clear HX hb_ hcl; have HX := n_; clear n_)
    | ((with_reducible refine gate_dst (N := 4) rfl ?_); refine bxV (N := 4) (cs := #[.int .i64 0, .int .i64 0]) (t := 23) (fun g => .pointer (some ⟨g, 0, none⟩)) rfl rfl HX.out ?h4 ?_; (case h4 => first | (go_simp; done) | (go_simp; rfl)); clear HX; intro b4 w7 HX)
    | ((with_reducible refine gate_store (t := 23) (p := 4) rfl ?_); refine stE (cs' := #[.int .i64 op, .int .i64 0]) (u := .agg #[.int .i64 op, .int .i64 0]) (seg := [.int .i64 op, .int .i64 0]) 0 0 HX.out rfl rfl rfl rfl rfl rfl rfl (by kernel_rfl) (by intro q hq; simp only [List.mem_cons, List.not_mem_nil, or_false] at hq; rcases hq with rfl | rfl <;> rfl) (Nat.le_refl 2) rfl ?_; intro w8 h1; have n_ : Aside0 (Bx w w8 [(b4, #[.int .i64 op, .int .i64 0], 23), (b2, #[.int .i64 0, .int .i64 0], 23)]) := ⟨h1⟩; clear HX h1; have HX := n_; clear n_; have hcz : w8.cell? ⟨b4, 0, none⟩ = some (.int .i64 op) := (blk_cell (HX.out.get 0 rfl) 0).trans rfl)
    | (go_at_call 19; refine (HHAS.out _).mono ?_; rintro e w9 ⟨rfl, q_, rfl⟩; have n_ := Aside0.mk (HX.out.drewN q_); clear HX hcz; have HX := n_; clear n_; have hcw : (w8.drewN q_).cell? ⟨ad.block, ad.off + 1, none⟩ = some (.string s1) := ((HX.out.1.cell (World.block_lt_of_cell? w _ HC1.out)).trans HC1.out))
    | (go_at_call 20; refine (HRD.out _ (HT.out.below HX.out.1)).mono ?_; rintro e w11 ⟨⟨n, rfl⟩, hb_⟩; have n_ := Aside0.mk (HX.out.below hb_); clear HX hb_ hcw; have HX := n_; clear n_)
    | ((with_reducible refine gate_store (t := 23) (p := 2) rfl ?_); refine stE (cs' := #[.int .i64 0, .int .i64 0]) (u := .agg #[.int .i64 0, .int .i64 0]) (seg := [.int .i64 0, .int .i64 0]) 1 0 HX.out rfl rfl rfl rfl rfl rfl rfl (by kernel_rfl) (by intro q hq; simp only [List.mem_cons, List.not_mem_nil, or_false] at hq; rcases hq with rfl | rfl <;> rfl) (Nat.le_refl 2) rfl ?_; intro w10 h1; have n_ := Aside0.mk h1; clear HX h1; have HX := n_; clear n_))
  refine bodyPost_ret (results_ct rfl _ _ b2 23 #[.int .i64 0, .int .i64 0] (0, 0) _ rfl (HX.out.get 1 rfl) hu23 rfl (by kernel_rfl)) rfl ?_
  exact ⟨rfl, HX.out.1⟩
set_option maxHeartbeats 4000000 in
set_option maxRecDepth 100000 in
/-- Two words. -/
theorem readInstr_two_some (n : Int) (ws : List ByteArray) (A : Option Addr) (c : Nat) (w : World) (hT : Tabs w) (hC : Kd.C Kd.string w A ws.length ws) (h : ws.length = 2) (hsz : (ws.getD 1 ByteArray.empty).size ≤ 281474976710656) (hnum : numT (ws.getD 1 ByteArray.empty) = some n) (hm : (rng (plc ow (ws.getD 0 ByteArray.empty) 0 + 1)).2.2 = true) :
    Calls Tryd.prog 9 #[.slice A ws.length c] w fun e w' => e = .returned (.tuple #[.agg #[.int .i64 (plc ow (ws.getD 0 ByteArray.empty) 0 + 1), .int .i64 n], .bool (instrb (plc ow (ws.getD 0 ByteArray.empty) 0 + 1) n)]) ∧ Below w.heap.size w w' := by
  have hu23 := Tryd.underlying23
  have HX := Aside0.mk (Bx.nil w)
  have HT := Aside0.mk hT
  obtain ⟨ad, hA0, hcell⟩ := str_at hC 0 (by omega) (by omega)
  obtain ⟨ad1, hA1, hcell1⟩ := str_at hC 1 (by omega) (by omega)
  subst hA0
  obtain rfl := Option.some.inj hA1
  obtain ⟨s, hs⟩ : ∃ s, s = ws.getD 0 ByteArray.empty := ⟨_, rfl⟩
  have e_ : ad.add 0 = ad := by cases ad; first | rfl | simp [Addr.add]
  have hcell0 : w.cell? ad = some (.string s) := (show w.cell? ad = w.cell? (ad.add 0) by rw [e_]).trans (by rw [hs]; exact hcell)
  have HCL := Aside0.mk hcell0
  obtain ⟨s1, hs1⟩ : ∃ s, s = ws.getD 1 ByteArray.empty := ⟨_, rfl⟩
  replace hcell1 : w.cell? (ad.add 1) = some (.string (ws.getD 1 ByteArray.empty)) := hcell1
  rw [← hs1] at hcell1 hsz hnum
  have HC1 := Aside0.mk hcell1
  have HRD := Aside0.mk (show ∀ W, Tabs W → Calls Tryd.prog 20 #[.string s1] W fun e w' => e = .returned (.tuple #[.int .i64 n, .bool true]) ∧ Below W.heap.size W w' from fun W hT => (readDecimal_calls s1 hsz W hT.2.1 hT.2.2.1 hT.2.2.2).mono (fun e w' q => by
    obtain ⟨⟨m, b, rfl, q1, q0⟩, hb⟩ := q
    cases b
    · have := q0 rfl; rw [hnum] at this; cases this
    · have := q1 rfl; rw [hnum] at this; cases this; exact ⟨rfl, hb⟩))
  rw [← hs] at hm ⊢
  obtain ⟨op, hop⟩ : ∃ op, op = plc ow s 0 + 1 := ⟨_, rfl⟩
  rw [← hop] at hm ⊢
  have HOP := Aside0.mk (OpOf_calls s)
  rw [← hop] at HOP
  have HHAS := Aside0.mk (impl_hasOperand.calls 3 op _ · (hasOp_f op))
  have c2e : ((ws.length : Int) == 2) = true := beq_iff_eq.mpr (by omega)
  rw [hm] at HHAS
  have HOK := Aside0.mk (impl_InstrOK.calls 3 op n _ · (impl_instr 3 (by omega) op n))
  have c0b : ((ws.length : Int) == 0) = false := beq_eq_false_iff_ne.mpr (by omega)
  have c2b : decide ((2 : Int) < (ws.length : Int)) = false := decide_eq_false (by omega)
  have c3b : decide ((ws.length : Int) > 2) = false := decide_eq_false (by omega)
  have q5 : ((0 : Int) < (ws.length : Int)) = True := eq_true (by omega)
  have q6 : (0 < ws.length) = True := eq_true (by omega)
  have q7 : (ws = []) = False := eq_false (fun e => by rw [e] at h; simp at h)
  have q8 : ((1 : Int) < (ws.length : Int)) = True := eq_true (by omega)
  have q9 : (1 < ws.length) = True := eq_true (by omega)
  clear h hC hcell hcell1 hs hs1 hop hT hm hsz hA1 hnum
  go_enter Tryd.func9, Tryd.ntmps9
  go_wp2_with (first
    | ((with_reducible refine gate_dst (N := 2) rfl ?_); refine bxV (N := 2) (cs := #[.int .i64 0, .int .i64 0]) (t := 23) (fun g => .pointer (some ⟨g, 0, none⟩)) rfl rfl HX.out ?h2 ?_; (case h2 => first | (go_simp; done) | (go_simp; rfl)); clear HX; intro b2 w5 HX; have hcl : w5.cell? ad = some (.string s) := ((HX.out.1.cell (World.block_lt_of_cell? w _ HCL.out)).trans HCL.out))
    | (go_at_call 18; refine (HOP.out _ (HT.out.below HX.out.1).1).mono ?_; rintro e w6 ⟨rfl, hb_⟩; have n_ := Aside0.mk (HX.out.below hb_); clear HX hb_ hcl; have HX := n_; clear n_)
    | ((with_reducible refine gate_dst (N := 4) rfl ?_); refine bxV (N := 4) (cs := #[.int .i64 0, .int .i64 0]) (t := 23) (fun g => .pointer (some ⟨g, 0, none⟩)) rfl rfl HX.out ?h4 ?_; (case h4 => first | (go_simp; done) | (go_simp; rfl)); clear HX; intro b4 w7 HX)
    | ((with_reducible refine gate_store (t := 23) (p := 4) rfl ?_); refine stE (cs' := #[.int .i64 op, .int .i64 0]) (u := .agg #[.int .i64 op, .int .i64 0]) (seg := [.int .i64 op, .int .i64 0]) 0 0 HX.out rfl rfl rfl rfl rfl rfl rfl (by kernel_rfl) (by intro q hq; simp only [List.mem_cons, List.not_mem_nil, or_false] at hq; rcases hq with rfl | rfl <;> rfl) (Nat.le_refl 2) rfl ?_; intro w8 h1; have n_ : Aside0 (Bx w w8 [(b4, #[.int .i64 op, .int .i64 0], 23), (b2, #[.int .i64 0, .int .i64 0], 23)]) := ⟨h1⟩; clear HX h1; have HX := n_; clear n_; have hcz : w8.cell? ⟨b4, 0, none⟩ = some (.int .i64 op) := (blk_cell (HX.out.get 0 rfl) 0).trans rfl)
    | (go_at_call 19; refine (HHAS.out _).mono ?_; rintro e w9 ⟨rfl, q_, rfl⟩; have n_ := Aside0.mk (HX.out.drewN q_); clear HX hcz; have HX := n_; clear n_; have hcw : (w8.drewN q_).cell? ⟨ad.block, ad.off + 1, none⟩ = some (.string s1) := ((HX.out.1.cell (World.block_lt_of_cell? w _ HC1.out)).trans HC1.out))
    | (go_at_call 20; refine (HRD.out _ (HT.out.below HX.out.1)).mono ?_; rintro e w11 ⟨rfl, hb_⟩; have n_ := Aside0.mk (HX.out.below hb_); clear HX hb_ hcw; have HX := n_; clear n_)
    | ((with_reducible refine gate_store (t := 3) (p := 43) rfl ?_); refine stE (cs' := #[.int .i64 op, .int .i64 n]) (u := .int .i64 n) (seg := [.int .i64 n]) 0 1 HX.out rfl rfl rfl rfl rfl rfl rfl (by kernel_rfl) (by intro q hq; simp only [List.mem_cons, List.not_mem_nil, or_false] at hq; subst hq; rfl) (Nat.le_refl 2) rfl ?_; intro w10 h1; have n_ : Aside0 (Bx w w10 [(b4, #[.int .i64 op, .int .i64 n], 23), (b2, #[.int .i64 0, .int .i64 0], 23)]) := ⟨h1⟩; clear HX h1; have HX := n_; clear n_))
  refine regT_ [44, 45, 46, 47] [.agg #[.int .i64 op, .int .i64 n], .agg #[.int .i64 op, .int .i64 n], .bool (instrb op n), undef] 3 3 23 (.tmp 2) (.tmp 44) (.tmp 46) (F := ?G) ?hG rfl rfl (by kernel_rfl) (by kernel_rfl) (by kernel_rfl) (Nat.le_refl _) HX.out (cs' := #[.int .i64 op, .int .i64 n]) (u := .agg #[.int .i64 op, .int .i64 n]) (seg := [.int .i64 op, .int .i64 n]) 1 0 rfl rfl ?st ?hp ?hv rfl (by kernel_rfl) (by intro q hq; simp only [List.mem_cons, List.not_mem_nil, or_false] at hq; rcases hq with rfl | rfl <;> rfl) (Nat.le_refl 2) rfl rfl ?nx
  case hG => simp only [putAll, List.zip_cons_cons, List.zip_nil_left, Act.put, List.setIfInBounds_toArray, List.set_cons_zero, List.set_cons_succ]; rfl
  case hp => rfl
  case hv => rfl
  case st =>
    intro I hI w' h0 L2 hX hL
    have g4 : L2[0]? = some (b4, #[.int .i64 op, .int .i64 n], 23) := by rcases hL with rfl | rfl <;> rfl
    refine ⟨st_ld rfl 0 hX g4 rfl rfl hu23 rfl (by kernel_rfl) rfl h0, st_ld rfl 0 hX g4 rfl rfl hu23 rfl (by kernel_rfl) rfl h0, st_call rfl Tryd.func21 (by kernel_rfl) rfl #[.agg #[.int .i64 op, .int .i64 n]] rfl ?c6, trivial⟩
    case c6 => exact (HOK.out _).mono (fun e w1 q => ⟨q.1, hI _ _ h0 q.2⟩)
  intro w12 h1
  have n_ := Aside0.mk h1
  clear HX h1
  have HX := n_
  clear n_
  go_wp2
  refine bodyPost_ret (results_ct rfl _ _ b2 23 #[.int .i64 op, .int .i64 n] (0, 0) _ rfl (HX.out.get 1 rfl) hu23 rfl (by kernel_rfl)) rfl ?_
  exact ⟨rfl, HX.out.1⟩
theorem wk_len : ∀ (s cur l : List UInt8), l ∈ wk cur s → l.length ≤ cur.length + s.length
  | [], cur, l, h => by
    rw [wk] at h
    split at h
    · cases h
    · obtain rfl := List.mem_singleton.1 h; simp
  | c :: r, cur, l, h => by
    rw [wk] at h
    split at h
    · rcases List.mem_append.1 h with h | h
      · split at h
        · cases h
        · obtain rfl := List.mem_singleton.1 h; simp
      · have := wk_len r [] l h; simp at this ⊢; omega
    · have := wk_len r _ l h; simp at this ⊢; omega
theorem wk_count : ∀ (s cur : List UInt8), (wk cur s).length ≤ s.length + 1
  | [], cur => by
    rw [wk]; split <;> simp
  | c :: r, cur => by
    rw [wk]
    split
    · have := wk_count r []
      rw [List.length_append]
      split <;> simp <;> omega
    · have := wk_count r (cur ++ [c]); simp; omega
theorem wordsB_size (a : ByteArray) (i : Nat) : ((wordsB a).getD i ByteArray.empty).size ≤ a.size := by
  by_cases h : i < (wordsB a).length
  · have hm : (wordsB a).getD i ByteArray.empty ∈ wordsB a := by
      rw [List.getD_eq_getElem?_getD, List.getElem?_eq_getElem h]; exact List.getElem_mem h
    obtain ⟨l, hl, e⟩ := List.mem_map.1 hm
    have := wk_len _ _ _ hl
    rw [← e]
    show l.length ≤ a.size
    have e2 : a.data.toList.length = a.size := by simp
    simp only [List.length_nil, Nat.zero_add] at this
    omega
  · rw [List.getD_eq_getElem?_getD, List.getElem?_eq_none (by omega)]
    show 0 ≤ a.size
    omega
theorem wordsB_count (a : ByteArray) : (wordsB a).length ≤ a.size + 1 := by
  have := wk_count a.data.toList []
  unfold wordsB
  rw [List.length_map]
  have e2 : a.data.toList.length = a.size := by simp
  omega
/-- impl.readInstr answers as readW. -/
theorem readInstr_calls (ws : List ByteArray) (A : Option Addr) (c : Nat) (w : World) (hT : Tabs w) (hC : Kd.C Kd.string w A ws.length ws) (hl : ws.length ≤ 1000000000) (hsz : (ws.getD 1 ByteArray.empty).size ≤ 281474976710656) :
    Calls Tryd.prog 9 #[.slice A ws.length c] w fun e w' => (∃ x y b, e = .returned (.tuple #[.agg #[.int .i64 x, .int .i64 y], .bool b]) ∧ (b = true → readW ws = (x, y, true)) ∧ (b = false → (readW ws).2.2 = false)) ∧ Below w.heap.size w w' := by
  by_cases h0 : ws.length = 0 ∨ 2 < ws.length
  · refine (readInstr_len ws A c w h0 hl).mono ?_
    rintro e w' ⟨rfl, hb⟩
    refine ⟨⟨_, _, _, rfl, fun q => (by cases q), fun _ => ?_⟩, hb⟩
    unfold readW
    rw [if_pos h0]
  · by_cases h2 : ws.length = 2
    · cases hp : (rng (plc ow (ws.getD 0 ByteArray.empty) 0 + 1)).2.2
      · refine (readInstr_mis ws A c w hT hC (.inr h2) (by rw [hp, h2]; rfl)).mono ?_
        rintro e w' ⟨rfl, hb⟩
        refine ⟨⟨_, _, _, rfl, fun q => (by cases q), fun _ => ?_⟩, hb⟩
        unfold readW
        rw [if_neg h0, if_pos h2]
        split
        · rfl
        · rw [if_neg (fun q => by rw [hp] at q; cases q.2)]
      · cases hn : numT (ws.getD 1 ByteArray.empty) with
        | none =>
          refine (readInstr_two_none ws A c w hT hC h2 hsz hn hp).mono ?_
          rintro e w' ⟨rfl, hb⟩
          refine ⟨⟨_, _, _, rfl, fun q => (by cases q), fun _ => ?_⟩, hb⟩
          unfold readW
          rw [if_neg h0, if_pos h2, hn]
        | some n =>
          refine (readInstr_two_some n ws A c w hT hC h2 hsz hn hp).mono ?_
          rintro e w' ⟨rfl, hb⟩
          refine ⟨⟨_, _, _, rfl, fun q => ?_, fun q => ?_⟩, hb⟩
          · unfold readW
            rw [if_neg h0, if_pos h2, hn]
            simp only
            rw [if_pos ⟨q, hp⟩]
          · unfold readW
            rw [if_neg h0, if_pos h2, hn]
            simp only
            rw [if_neg (fun r => by rw [q] at r; cases r.1)]
    · have h1 : ws.length = 1 := by omega
      cases hp : (rng (plc ow (ws.getD 0 ByteArray.empty) 0 + 1)).2.2
      · refine (readInstr_one ws A c w hT hC h1 hp).mono ?_
        rintro e w' ⟨rfl, hb⟩
        refine ⟨⟨_, _, _, rfl, fun q => ?_, fun q => ?_⟩, hb⟩
        · unfold readW
          rw [if_neg h0, if_neg h2, if_pos ⟨q, hp⟩]
        · unfold readW
          rw [if_neg h0, if_neg h2, if_neg (fun r => by rw [q] at r; cases r.1)]
      · refine (readInstr_mis ws A c w hT hC (.inl h1) (by rw [hp, h1]; rfl)).mono ?_
        rintro e w' ⟨rfl, hb⟩
        refine ⟨⟨_, _, _, rfl, fun q => (by cases q), fun _ => ?_⟩, hb⟩
        unfold readW
        rw [if_neg h0, if_neg h2, if_neg (fun q => by rw [hp] at q; cases q.2)]
theorem long_ans (a : ByteArray) : impl_long.f a = some (if 65536 < a.size then 2 else 0) := by
  unfold impl_long.f impl_when.f
  by_cases h : 65536 < a.size
  · rw [if_pos (decide_eq_true (by omega)), if_pos h]; rfl
  · rw [if_neg (fun q => h (by have := of_decide_eq_true q; omega)), if_neg h]; rfl
set_option maxHeartbeats 4000000 in
set_option maxRecDepth 100000 in
theorem ri_long (a : ByteArray) (h : 65536 < a.size) (w : World) : Calls Tryd.prog 5 #[.string a] w fun e w' => e = .returned (.tuple #[.agg #[.int .i64 0, .int .i64 0], .int .i64 2]) ∧ Below w.heap.size w w' := by
  have hu23 := Tryd.underlying23
  have HX := Aside0.mk (Bx.nil w)
  have HL := Aside0.mk (fun w => impl_long.calls a 2 w (by rw [long_ans, if_pos h]))
  clear h
  go_enter Tryd.func5, Tryd.ntmps5
  go_wp2_with (first
    | ((with_reducible refine gate_dst (N := 2) rfl ?_); refine bxV (N := 2) (cs := #[.int .i64 0, .int .i64 0]) (t := 23) (fun g => .pointer (some ⟨g, 0, none⟩)) rfl rfl HX.out ?h2 ?_; (case h2 => first | (go_simp; done) | (go_simp; rfl)); clear HX; intro b2 w5 HX)
    | (go_at_call 8; refine (HL.out _).mono ?_; rintro e w6 ⟨rfl, q_, rfl⟩; have n_ := Aside0.mk (HX.out.drewN q_); clear HX; have HX := n_; clear n_)
    | ((with_reducible refine gate_store (t := 23) (p := 2) rfl ?_); refine stE (cs' := #[.int .i64 0, .int .i64 0]) (u := .agg #[.int .i64 0, .int .i64 0]) (seg := [.int .i64 0, .int .i64 0]) 0 0 HX.out rfl rfl rfl rfl rfl rfl rfl (by kernel_rfl) (by intro q hq; simp only [List.mem_cons, List.not_mem_nil, or_false] at hq; rcases hq with rfl | rfl <;> rfl) (Nat.le_refl 2) rfl ?_; intro w10 h1; have n_ := Aside0.mk h1; clear HX h1; have HX := n_; clear n_))
  refine bodyPost_ret (results_ct rfl _ _ b2 23 #[.int .i64 0, .int .i64 0] (0, 0) _ rfl (HX.out.get 0 rfl) hu23 rfl (by kernel_rfl)) rfl ?_
  exact ⟨rfl, HX.out.1⟩
theorem cell_bx {w0 W : World} {L : List (Nat × Array Value × Nat)} {ad : Addr} {v : Value} (HX : Bx w0 W L) (h : w0.cell? ad = some v) : W.cell? ad = some v := (HX.1.cell (World.block_lt_of_cell? w0 _ h)).trans h
set_option maxHeartbeats 4000000 in
set_option maxRecDepth 100000 in
theorem ri_good (a : ByteArray) (h : a.size ≤ 65536) (m : Int) (w : World) (hm : w.cell? ⟨4, 0, none⟩ = some (.int .i64 m)) (hT : Tabs w) (hg : (readW (wordsB a)).2.2 = true) :
    Calls Tryd.prog 5 #[.string a] w fun e w' => e = .returned (.tuple #[.agg #[.int .i64 (readW (wordsB a)).1, .int .i64 (readW (wordsB a)).2.1], .int .i64 0]) ∧ Below w.heap.size w w' := by
  have hu23 := Tryd.underlying23
  have HX := Aside0.mk (Bx.nil w)
  have HT := Aside0.mk hT
  have HM := Aside0.mk hm
  have HL := Aside0.mk (fun w => impl_long.calls a 0 w (by rw [long_ans, if_neg (by omega)]))
  have HWD := Aside0.mk (fun W (q : W.cell? ⟨4, 0, none⟩ = some (.int .i64 m)) => words_calls a (by omega) m W q)
  have hcnt := wordsB_count a
  have hsz := wordsB_size a 1
  obtain ⟨x, hx⟩ : ∃ x, x = (readW (wordsB a)).1 := ⟨_, rfl⟩
  obtain ⟨y, hy⟩ : ∃ y, y = (readW (wordsB a)).2.1 := ⟨_, rfl⟩
  have HRI := Aside0.mk (show ∀ A c W, Tabs W → Kd.C Kd.string W A (wordsB a).length (wordsB a) → Calls Tryd.prog 9 #[.slice A (wordsB a).length c] W fun e w' => e = .returned (.tuple #[.agg #[.int .i64 x, .int .i64 y], .bool true]) ∧ Below W.heap.size W w' from fun A c W q1 q2 => (readInstr_calls (wordsB a) A c W q1 q2 (by omega) (by omega)).mono (fun e w' q => by
    obtain ⟨⟨x', y', b, rfl, h1, h0⟩, hb⟩ := q
    cases b
    · have := h0 rfl; rw [hg] at this; cases this
    · have e1 := h1 rfl
      rw [hx, hy, e1]
      exact ⟨rfl, hb⟩))
  rw [← hx, ← hy]
  clear h hg hcnt hsz hx hy hT hm
  go_enter Tryd.func5, Tryd.ntmps5
  go_wp2_with (first
    | ((with_reducible refine gate_dst (N := 2) rfl ?_); refine bxV (N := 2) (cs := #[.int .i64 0, .int .i64 0]) (t := 23) (fun g => .pointer (some ⟨g, 0, none⟩)) rfl rfl HX.out ?h2 ?_; (case h2 => first | (go_simp; done) | (go_simp; rfl)); clear HX; intro b2 w5 HX)
    | (go_at_call 8; refine (HL.out _).mono ?_; rintro e w6 ⟨rfl, q_, rfl⟩; have n_ := Aside0.mk (HX.out.drewN q_); clear HX; have HX := n_; clear n_)
    | (go_at_call 9; refine (HRI.out _ _ _ (HT.out.below HX.out.1) HC.out).mono ?_; rintro e w8 ⟨rfl, hb_⟩; have n_ := Aside0.mk (HX.out.below hb_); clear HX hb_ HC; have HX := n_; clear n_)
    | (go_at_call 10; refine (HWD.out _ (cell_bx HX.out HM.out)).mono ?_; rintro e w7 ⟨A, c, rfl, hc, hC, hb_⟩; have HC := Aside0.mk hC; have n_ := Aside0.mk (HX.out.below hb_); clear HX hb_ hC hc; have HX := n_; clear n_)
    | ((with_reducible refine gate_dst (N := 5) rfl ?_); refine bxV (N := 5) (cs := #[.int .i64 0, .int .i64 0]) (t := 23) (fun g => .pointer (some ⟨g, 0, none⟩)) rfl rfl HX.out ?h5 ?_; (case h5 => first | (go_simp; done) | (go_simp; rfl)); clear HX; intro b5 w9 HX)
    | ((with_reducible refine gate_store (t := 23) (p := 5) rfl ?_); refine stE (cs' := #[.int .i64 x, .int .i64 y]) (u := .agg #[.int .i64 x, .int .i64 y]) (seg := [.int .i64 x, .int .i64 y]) 0 0 HX.out rfl rfl rfl rfl rfl rfl rfl (by kernel_rfl) (by intro q hq; simp only [List.mem_cons, List.not_mem_nil, or_false] at hq; rcases hq with rfl | rfl <;> rfl) (Nat.le_refl 2) rfl ?_; intro w10 h1; have n_ : Aside0 (Bx w w10 [(b5, #[.int .i64 x, .int .i64 y], 23), (b2, #[.int .i64 0, .int .i64 0], 23)]) := ⟨h1⟩; clear HX h1; have HX := n_; clear n_)
    | ((with_reducible refine gate_dst (N := 22) rfl ?_); refine ldE (N := 22) rfl 0 HX.out rfl rfl rfl rfl hu23 rfl (by kernel_rfl) ?_)
    | ((with_reducible refine gate_store (t := 23) (p := 2) rfl ?_); refine stE (cs' := #[.int .i64 x, .int .i64 y]) (u := .agg #[.int .i64 x, .int .i64 y]) (seg := [.int .i64 x, .int .i64 y]) 1 0 HX.out rfl rfl rfl rfl rfl rfl rfl (by kernel_rfl) (by intro q hq; simp only [List.mem_cons, List.not_mem_nil, or_false] at hq; rcases hq with rfl | rfl <;> rfl) (Nat.le_refl 2) rfl ?_; intro w11 h1; have n_ := Aside0.mk h1; clear HX h1; have HX := n_; clear n_))
  refine bodyPost_ret (results_ct rfl _ _ b2 23 #[.int .i64 x, .int .i64 y] (0, 0) _ rfl (HX.out.get 1 rfl) hu23 rfl (by kernel_rfl)) rfl ?_
  exact ⟨rfl, HX.out.1⟩
set_option maxHeartbeats 4000000 in
set_option maxRecDepth 100000 in
theorem ri_bad (a : ByteArray) (h : a.size ≤ 65536) (m : Int) (w : World) (hm : w.cell? ⟨4, 0, none⟩ = some (.int .i64 m)) (hT : Tabs w) (hg : (readW (wordsB a)).2.2 = false) :
    Calls Tryd.prog 5 #[.string a] w fun e w' => e = .returned (.tuple #[.agg #[.int .i64 0, .int .i64 0], .int .i64 3]) ∧ Below w.heap.size w w' := by
  have hu23 := Tryd.underlying23
  have HX := Aside0.mk (Bx.nil w)
  have HT := Aside0.mk hT
  have HM := Aside0.mk hm
  have HL := Aside0.mk (fun w => impl_long.calls a 0 w (by rw [long_ans, if_neg (by omega)]))
  have HWD := Aside0.mk (fun W (q : W.cell? ⟨4, 0, none⟩ = some (.int .i64 m)) => words_calls a (by omega) m W q)
  have hcnt := wordsB_count a
  have hsz := wordsB_size a 1
  have HRI := Aside0.mk (show ∀ A c W, Tabs W → Kd.C Kd.string W A (wordsB a).length (wordsB a) → Calls Tryd.prog 9 #[.slice A (wordsB a).length c] W fun e w' => (∃ x y, e = .returned (.tuple #[.agg #[.int .i64 x, .int .i64 y], .bool false])) ∧ Below W.heap.size W w' from fun A c W q1 q2 => (readInstr_calls (wordsB a) A c W q1 q2 (by omega) (by omega)).mono (fun e w' q => by
    obtain ⟨⟨x', y', b, rfl, h1, h0⟩, hb⟩ := q
    cases b
    · exact ⟨⟨_, _, rfl⟩, hb⟩
    · have e1 := h1 rfl
      rw [e1] at hg
      cases hg))
  clear h hg hcnt hsz hT hm
  go_enter Tryd.func5, Tryd.ntmps5
  go_wp2_with (first
    | ((with_reducible refine gate_dst (N := 2) rfl ?_); refine bxV (N := 2) (cs := #[.int .i64 0, .int .i64 0]) (t := 23) (fun g => .pointer (some ⟨g, 0, none⟩)) rfl rfl HX.out ?h2 ?_; (case h2 => first | (go_simp; done) | (go_simp; rfl)); clear HX; intro b2 w5 HX)
    | (go_at_call 8; refine (HL.out _).mono ?_; rintro e w6 ⟨rfl, q_, rfl⟩; have n_ := Aside0.mk (HX.out.drewN q_); clear HX; have HX := n_; clear n_)
    | (go_at_call 9; refine (HRI.out _ _ _ (HT.out.below HX.out.1) HC.out).mono ?_; rintro e w8 ⟨⟨x, y, rfl⟩, hb_⟩; have n_ := Aside0.mk (HX.out.below hb_); clear HX hb_ HC; have HX := n_; clear n_)
    | (go_at_call 10; refine (HWD.out _ (cell_bx HX.out HM.out)).mono ?_; rintro e w7 ⟨A, c, rfl, hc, hC, hb_⟩; have HC := Aside0.mk hC; have n_ := Aside0.mk (HX.out.below hb_); clear HX hb_ hC hc; have HX := n_; clear n_)
    | ((with_reducible refine gate_dst (N := 5) rfl ?_); refine bxV (N := 5) (cs := #[.int .i64 0, .int .i64 0]) (t := 23) (fun g => .pointer (some ⟨g, 0, none⟩)) rfl rfl HX.out ?h5 ?_; (case h5 => first | (go_simp; done) | (go_simp; rfl)); clear HX; intro b5 w9 HX)
    | ((with_reducible refine gate_store (t := 23) (p := 5) rfl ?_); refine stE (cs' := #[.int .i64 x, .int .i64 y]) (u := .agg #[.int .i64 x, .int .i64 y]) (seg := [.int .i64 x, .int .i64 y]) 0 0 HX.out rfl rfl rfl rfl rfl rfl rfl (by kernel_rfl) (by intro q hq; simp only [List.mem_cons, List.not_mem_nil, or_false] at hq; rcases hq with rfl | rfl <;> rfl) (Nat.le_refl 2) rfl ?_; intro w10 h1; have n_ : Aside0 (Bx w w10 [(b5, #[.int .i64 x, .int .i64 y], 23), (b2, #[.int .i64 0, .int .i64 0], 23)]) := ⟨h1⟩; clear HX h1; have HX := n_; clear n_)
    | ((with_reducible refine gate_store (t := 23) (p := 2) rfl ?_); refine stE (cs' := #[.int .i64 0, .int .i64 0]) (u := .agg #[.int .i64 0, .int .i64 0]) (seg := [.int .i64 0, .int .i64 0]) 1 0 HX.out rfl rfl rfl rfl rfl rfl rfl (by kernel_rfl) (by intro q hq; simp only [List.mem_cons, List.not_mem_nil, or_false] at hq; rcases hq with rfl | rfl <;> rfl) (Nat.le_refl 2) rfl ?_; intro w11 h1; have n_ := Aside0.mk h1; clear HX h1; have HX := n_; clear n_))
  refine bodyPost_ret (results_ct rfl _ _ b2 23 #[.int .i64 0, .int .i64 0] (0, 0) _ rfl (HX.out.get 1 rfl) hu23 rfl (by kernel_rfl)) rfl ?_
  exact ⟨rfl, HX.out.1⟩
theorem impl_ri (a : ByteArray) (m : Int) (w : World) (hm : w.cell? ⟨4, 0, none⟩ = some (.int .i64 m)) (hT : Tabs w) :
    Calls Tryd.prog 5 #[.string a] w fun e w' => e = .returned (.tuple #[.agg #[.int .i64 (riOf a).1, .int .i64 (riOf a).2.1], .int .i64 (riOf a).2.2]) ∧ Below w.heap.size w w' := by
  unfold riOf
  by_cases h : 65536 < a.size
  · rw [if_pos h]; exact ri_long a h w
  · rw [if_neg h]
    cases hg : (readW (wordsB a)).2.2
    · exact ri_bad a (by omega) m w hm hT hg
    · exact ri_good a (by omega) m w hm hT hg
set_option maxHeartbeats 4000000 in
set_option maxRecDepth 100000 in
/-- The law. -/
theorem walk (a : ByteArray) (m : Int) (w : World) (hm : w.cell? ⟨4, 0, none⟩ = some (.int .i64 m)) (hT : Tabs w) :
    Calls Tryd.prog 3 #[.string a] w fun e w' => e = .returned (.bool true) ∧ Below w.heap.size w w' := by
  have hu23 := Tryd.underlying23
  have HX := Aside0.mk (Bx.nil w)
  by_cases hz : a.size ≤ 1048576
  · obtain ⟨r, hr⟩ : ∃ r, r = riOf a := ⟨_, rfl⟩
    obtain ⟨x, y, z⟩ := r
    have HS := Aside0.mk (fun w => spec_ReadInstr.calls 140000 a x y z w (by rw [spec_ri a 140000 (Nat.le_refl _), ← hr]))
    have HI := Aside0.mk (show ∀ W, W.cell? ⟨4, 0, none⟩ = some (.int .i64 m) → Tabs W → Calls Tryd.prog 5 #[.string a] W fun e w' => e = .returned (.tuple #[.agg #[.int .i64 x, .int .i64 y], .int .i64 z]) ∧ Below W.heap.size W w' from fun W q1 q2 => by have := impl_ri a m W q1 q2; rw [← hr] at this; exact this)
    have HE := Aside0.mk (fun w => laws_eqInstr.calls x y x y true w (by unfold laws_eqInstr.f; rw [if_pos rfl, if_pos rfl]))
    have HT := Aside0.mk hT
    have HM := Aside0.mk hm
    have c1 : decide ((1048576 : Int) < (a.size : Int)) = false := decide_eq_false (by omega)
    have c2 : (1048576 < a.size) = False := eq_false (by omega)
    have c3 : ((a.size : Int) > 1048576) = False := eq_false (by omega)
    have zz : ((z : Int) != z) = false := by simp
    clear hT hz hr hm
    go_enter Tryd.func3, Tryd.ntmps3
    go_wp2_with (first
      | (go_at_call 4; refine (HS.out _).mono ?_; rintro e w1 ⟨rfl, hb_⟩; have n_ := Aside0.mk (HX.out.below hb_); clear HX hb_; have HX := n_; clear n_)
      | (go_at_call 5; refine (HI.out _ (cell_bx HX.out HM.out) (HT.out.below HX.out.1)).mono ?_; rintro e w2 ⟨rfl, hb_⟩; have n_ := Aside0.mk (HX.out.below hb_); clear HX hb_; have HX := n_; clear n_)
      | (go_at_call 6; refine (HE.out _).mono ?_; rintro e w3 ⟨rfl, hb_⟩; have n_ := Aside0.mk (HX.out.below hb_); clear HX hb_; have HX := n_; clear n_)
      | ((with_reducible refine gate_dst (N := 3) rfl ?_); refine bxV (N := 3) (cs := #[.int .i64 0, .int .i64 0]) (t := 23) (fun g => .pointer (some ⟨g, 0, none⟩)) rfl rfl HX.out ?h3 ?_; (case h3 => first | (go_simp; done) | (go_simp; rfl)); clear HX; intro b3 w4 HX)
      | ((with_reducible refine gate_dst (N := 5) rfl ?_); refine bxV (N := 5) (cs := #[.int .i64 0, .int .i64 0]) (t := 23) (fun g => .pointer (some ⟨g, 0, none⟩)) rfl rfl HX.out ?h5 ?_; (case h5 => first | (go_simp; done) | (go_simp; rfl)); clear HX; intro b5 w5 HX)
      | ((with_reducible refine gate_store (t := 23) (p := 3) rfl ?_); refine stE (cs' := #[.int .i64 x, .int .i64 y]) (u := .agg #[.int .i64 x, .int .i64 y]) (seg := [.int .i64 x, .int .i64 y]) 0 0 HX.out rfl rfl rfl rfl rfl rfl rfl (by kernel_rfl) (by intro q hq; simp only [List.mem_cons, List.not_mem_nil, or_false] at hq; rcases hq with rfl | rfl <;> rfl) (Nat.le_refl 2) rfl ?_; intro w10 h1; have n_ := Aside0.mk h1; clear HX h1; have HX := n_; clear n_)
      | ((with_reducible refine gate_store (t := 23) (p := 5) rfl ?_); refine stE (cs' := #[.int .i64 x, .int .i64 y]) (u := .agg #[.int .i64 x, .int .i64 y]) (seg := [.int .i64 x, .int .i64 y]) 0 0 HX.out rfl rfl rfl rfl rfl rfl rfl (by kernel_rfl) (by intro q hq; simp only [List.mem_cons, List.not_mem_nil, or_false] at hq; rcases hq with rfl | rfl <;> rfl) (Nat.le_refl 2) rfl ?_; intro w10 h1; have n_ := Aside0.mk h1; clear HX h1; have HX := n_; clear n_)
      | ((with_reducible refine gate_dst (N := 20) rfl ?_); refine ldE (N := 20) rfl 0 HX.out rfl rfl rfl rfl hu23 rfl (by kernel_rfl) ?_)
      | ((with_reducible refine gate_dst (N := 21) rfl ?_); refine ldE (N := 21) rfl 1 HX.out rfl rfl rfl rfl hu23 rfl (by kernel_rfl) ?_))
    go_ret
    exact ⟨rfl, HX.out.1⟩
  · have c1 : decide ((1048576 : Int) < (a.size : Int)) = true := decide_eq_true (by omega)
    have c2 : (1048576 < a.size) = True := eq_true (by omega)
    have c3 : ((a.size : Int) > 1048576) = True := eq_true (by omega)
    clear hT hz
    go_enter Tryd.func3, Tryd.ntmps3
    go_wp2
    go_ret
    exact ⟨rfl, HX.out.1⟩
theorem tab_of_laid {W : World} (h : laidMetH Tryd.prog [("math/bits.deBruijn32tab", Rows.laid_math_bits_deBruijn32tab), ("math/bits.deBruijn64tab", Rows.laid_math_bits_deBruijn64tab), ("internal/strconv.uint64pow10", Rows.laid_internal_strconv_uint64pow10), ("unicode/utf8.acceptRanges", Rows.laid_unicode_utf8_acceptRanges), ("strconv.ErrRange", Rows.laid_strconv_ErrRange), ("strconv.ErrSyntax", Rows.laid_strconv_ErrSyntax), ("unicode.White_Space", Rows.laid_unicode_White_Space), ("strings.asciiSpace", Rows.laid_strings_asciiSpace), ("unicode/utf8.first", Rows.laid_unicode_utf8_first)] W) : Lib.TabIs Tryd.prog W "strings.asciiSpace" .u8 Lib.asciiSpaceTab := by
  rw [MakeChecks.laidMetH_plain _ _ _ (by kernel_rfl)] at h
  have h2 := h.tail.tail.tail.tail.tail.tail.tail
  rw [show (Rows.laid_strings_asciiSpace : DataW Unit) = Lib.tabData .u8 Lib.asciiSpaceTab from by kernel_rfl] at h2
  exact Lib.tabIs_of_head (g := 0) (t := 60) (e := 5) (n := 256) (by kernel_rfl) (by kernel_rfl) (by kernel_rfl) (by kernel_rfl) (by kernel_rfl) (by kernel_rfl) h2
theorem pow_of_laid {W : World} (h : laidMetH Tryd.prog [("math/bits.deBruijn32tab", Rows.laid_math_bits_deBruijn32tab), ("math/bits.deBruijn64tab", Rows.laid_math_bits_deBruijn64tab), ("internal/strconv.uint64pow10", Rows.laid_internal_strconv_uint64pow10), ("unicode/utf8.acceptRanges", Rows.laid_unicode_utf8_acceptRanges), ("strconv.ErrRange", Rows.laid_strconv_ErrRange), ("strconv.ErrSyntax", Rows.laid_strconv_ErrSyntax), ("unicode.White_Space", Rows.laid_unicode_White_Space), ("strings.asciiSpace", Rows.laid_strings_asciiSpace), ("unicode/utf8.first", Rows.laid_unicode_utf8_first)] W) : Lib.TabIs Tryd.prog W "internal/strconv.uint64pow10" .u64 Lib.pow10Tab := by
  rw [MakeChecks.laidMetH_plain _ _ _ (by kernel_rfl)] at h
  have h2 := h.tail.tail
  rw [show (Rows.laid_internal_strconv_uint64pow10 : DataW Unit) = Lib.tabData .u64 Lib.pow10Tab from by kernel_rfl] at h2
  exact Lib.tabIs_of_head (g := 7) (t := 118) (e := 79) (n := 20) (by kernel_rfl) (by kernel_rfl) (by kernel_rfl) (by kernel_rfl) (by kernel_rfl) (by kernel_rfl) h2
theorem own : ownKnob Tryd.prog.godebug = none := by kernel_rfl
theorem laidOut : laidOutB Tryd.prog = true := by kernel_rfl
theorem star_ : "*" ++ "errors.errorString" = "*errors.errorString" := by decide
theorem rowErr (u : TypeId) (h : Tryd.prog.typeName? 3 u = some "*errors.errorString") : u = 102 :=
  typeName_ptr_named (nm := "errors.errorString") (by rw [star_]; kernel_rfl) (by kernel_rfl) (by decide) u (by rw [star_]; exact h)
theorem err_of_laid {W : World} (h : laidMetH Tryd.prog [("math/bits.deBruijn32tab", Rows.laid_math_bits_deBruijn32tab), ("math/bits.deBruijn64tab", Rows.laid_math_bits_deBruijn64tab), ("internal/strconv.uint64pow10", Rows.laid_internal_strconv_uint64pow10), ("unicode/utf8.acceptRanges", Rows.laid_unicode_utf8_acceptRanges), ("strconv.ErrRange", Rows.laid_strconv_ErrRange), ("strconv.ErrSyntax", Rows.laid_strconv_ErrSyntax), ("unicode.White_Space", Rows.laid_unicode_White_Space), ("strings.asciiSpace", Rows.laid_strings_asciiSpace), ("unicode/utf8.first", Rows.laid_unicode_utf8_first)] W) : IsErr W "strconv.ErrRange" ∧ IsErr W "strconv.ErrSyntax" := by
  rw [MakeChecks.laidMetH_plain _ _ _ (by kernel_rfl)] at h
  have h2 := h.tail.tail.tail.tail
  obtain ⟨a0, _, hv0, _⟩ := laid_sentinel (g := 3) (ti := 50) (tp := 102) (te := 104) (ts := 9) h2 (by kernel_rfl) (by kernel_rfl) Tryd.underlying50 rowErr Tryd.underlying102 Tryd.underlying104 rfl rfl Tryd.underlying9 (by kernel_rfl) (by kernel_rfl)
  obtain ⟨a1, _, hv1, _⟩ := laid_sentinel (g := 2) (ti := 50) (tp := 102) (te := 104) (ts := 9) h2.tail (by kernel_rfl) (by kernel_rfl) Tryd.underlying50 rowErr Tryd.underlying102 Tryd.underlying104 rfl rfl Tryd.underlying9 (by kernel_rfl) (by kernel_rfl)
  exact ⟨⟨_, _, hv0⟩, ⟨_, _, hv1⟩⟩
/-- The lift, the world's shape kept. -/
theorem lift_shaped {H : Type} {enc : TypeId × Value → H} {asn : Assume} {C : Checked} {os : Os} {f : FuncId} {fn : Func} {s : ChangeSpec} {conds : List PathCond} {apart fresh handsOn again : Bool} {X : World → Array Value → Prop}
    (hX : ∀ (w w' : World) (args : Array Value), w.heap = w'.heap → X w args → X w' args)
    (own : ownKnob C.prog.godebug = none) (started : os.Started) (noInit : C.prog.inits.idxOf? f = none) (hfn : C.prog.funcs[f]? = some fn)
    (witness : ∃ (w : World) (tape : Tape) (i : Input), w.os = os ∧ (w.forCall tape i).Shaped C.prog ∧ i.vars = [] ∧ Input.okWide C.prog (w.forCall tape i) .any w.heap.size f i ∧
      ((s.pre enc C.prog fn conds apart (w.forCall tape i).memory i.args ∧ X (w.forCall tape i).memory i.args) ∧ sizedMet enc C.prog fn (OpenSpec.ofChange s) apart (w.forCall tape i).memory i.args) ∧ asn.holds C.prog (lone (Frame.enter C.prog f i.args .normal) [] (w.forCall tape i)))
    (contract : ∀ (W : World) (base : Nat) (args : Array Value) (ds gs : List (DataW H)) (before : List MemPlace),
      (∀ (j : Nat) t v, fn.params[j]? = some t → args[j]? = some v → Value.okWide C.prog W .any base t v) →
      DataW.Whole enc C.prog fn.params.toList s.vars apart W args.toList ds gs before → X W args → W.ShapedOpen C.prog →
      Calls C.prog f args W fun e W' => ∃ v, e = .returned v ∧ s.post enc C.prog fn apart fresh handsOn again W args v W') :
    ReturnsInHanded asn C os f .any (fun w args => (s.pre enc C.prog fn conds apart w args ∧ X w args) ∧ sizedMet enc C.prog fn (OpenSpec.ofChange s) apart w args) (s.post enc C.prog fn apart fresh handsOn again) := by
  refine returnsInHanded_of_calls own started noInit witness ?_
  intro w tape i _ hsh _ hok hpre _
  obtain ⟨_, _, _, fn', hfn', _, _, _, _, hval⟩ := hok
  obtain rfl : fn' = fn := Option.some.inj (hfn'.symm.trans hfn)
  obtain ⟨⟨⟨ds, gs, before, hw, _⟩, hx⟩, _⟩ := hpre
  refine (contract (w.forCall tape i) w.heap.size i.args ds gs before hval (DataW.Whole.of_heap (w' := w.forCall tape i) (by rfl) hw) (hX _ _ _ (by rfl) hx) hsh).mono fun e W' ⟨v, he, hp⟩ => ?_
  subst he
  exact ChangeSpec.post_blind hp
set_option maxRecDepth 100000 in
theorem lifted (os : Os) (started : os.Started) (H : Type) (enc : TypeId × Value → H) :
    ReturnsInHanded {} Tryd.checked os 3 .any (fun w args => (Rows.fnExactReadInstrSpec.pre enc Tryd.prog Tryd.f3 [] false w args ∧ laidMetH Tryd.prog [("math/bits.deBruijn32tab", Rows.laid_math_bits_deBruijn32tab), ("math/bits.deBruijn64tab", Rows.laid_math_bits_deBruijn64tab), ("internal/strconv.uint64pow10", Rows.laid_internal_strconv_uint64pow10), ("unicode/utf8.acceptRanges", Rows.laid_unicode_utf8_acceptRanges), ("strconv.ErrRange", Rows.laid_strconv_ErrRange), ("strconv.ErrSyntax", Rows.laid_strconv_ErrSyntax), ("unicode.White_Space", Rows.laid_unicode_White_Space), ("strings.asciiSpace", Rows.laid_strings_asciiSpace), ("unicode/utf8.first", Rows.laid_unicode_utf8_first)] w) ∧ sizedMet enc Tryd.prog Tryd.f3 (OpenSpec.ofChange Rows.fnExactReadInstrSpec) false w args)
      (Rows.fnExactReadInstrSpec.post enc Tryd.prog Tryd.f3 false true false false) := by
  refine lift_shaped (C := Tryd.checked) (X := fun w _ => laidMetH Tryd.prog [("math/bits.deBruijn32tab", Rows.laid_math_bits_deBruijn32tab), ("math/bits.deBruijn64tab", Rows.laid_math_bits_deBruijn64tab), ("internal/strconv.uint64pow10", Rows.laid_internal_strconv_uint64pow10), ("unicode/utf8.acceptRanges", Rows.laid_unicode_utf8_acceptRanges), ("strconv.ErrRange", Rows.laid_strconv_ErrRange), ("strconv.ErrSyntax", Rows.laid_strconv_ErrSyntax), ("unicode.White_Space", Rows.laid_unicode_White_Space), ("strings.asciiSpace", Rows.laid_strings_asciiSpace), ("unicode/utf8.first", Rows.laid_unicode_utf8_first)] w) (fun _ _ _ hh h => h.of_heap hh) own started (by kernel_rfl) Tryd.func3
    (ChangeSpec.witness_shaped (enc := enc) (C := Tryd.checked) (os := os) (X := fun w _ => laidMetH Tryd.prog [("math/bits.deBruijn32tab", Rows.laid_math_bits_deBruijn32tab), ("math/bits.deBruijn64tab", Rows.laid_math_bits_deBruijn64tab), ("internal/strconv.uint64pow10", Rows.laid_internal_strconv_uint64pow10), ("unicode/utf8.acceptRanges", Rows.laid_unicode_utf8_acceptRanges), ("strconv.ErrRange", Rows.laid_strconv_ErrRange), ("strconv.ErrSyntax", Rows.laid_strconv_ErrSyntax), ("unicode.White_Space", Rows.laid_unicode_White_Space), ("strings.asciiSpace", Rows.laid_strings_asciiSpace), ("unicode/utf8.first", Rows.laid_unicode_utf8_first)] w) false (World.laidAll Tryd.prog os [("math/bits.deBruijn32tab", Rows.laid_math_bits_deBruijn32tab), ("math/bits.deBruijn64tab", Rows.laid_math_bits_deBruijn64tab), ("internal/strconv.uint64pow10", Rows.laid_internal_strconv_uint64pow10), ("unicode/utf8.acceptRanges", Rows.laid_unicode_utf8_acceptRanges), ("strconv.ErrRange", Rows.laid_strconv_ErrRange), ("strconv.ErrSyntax", Rows.laid_strconv_ErrSyntax), ("unicode.White_Space", Rows.laid_unicode_White_Space), ("strings.asciiSpace", Rows.laid_strings_asciiSpace), ("unicode/utf8.first", Rows.laid_unicode_utf8_first)]) #[.string ByteArray.empty] 8 (World.laidAll_os _ _ _) (World.shaped_of_ZipB (by kernel_rfl) (by kernel_rfl)) (by kernel_rfl) (by kernel_rfl) (by kernel_rfl) (by rw [MakeChecks.laidMetH_plain _ _ _ (by kernel_rfl)]; exact laidMet_laidAll _ (by kernel_rfl) (by kernel_rfl))) ?_
  intro W base args ds gs before hval0 hW hL hSh
  have hval : ∀ (j : Nat) t v, Tryd.f3.params[j]? = some t → args[j]? = some v → Value.okWide Tryd.prog W .any base t v := hval0
  have hW' := hW
  obtain ⟨p, q, hA0, hV, rfl, hfz, hnd⟩ := hW
  have hA : DataW.TrodAll enc Tryd.prog W 0 (fun _ => true) true Tryd.f3.params.toList args.toList ds p := hA0
  rw [Tryd.params3] at hA hval
  obtain ⟨v0, d0, rfl, rfl, h0⟩ := trodAll_one hA
  obtain ⟨rfl, rfl⟩ := trodVars_none hV
  obtain ⟨a, rfl, rfl, rfl, y0⟩ := open_string Tryd.underlying9 (hval 0 9 v0 rfl rfl) h0
  obtain ⟨m, hm⟩ := cell_of_shapedOpen_int (g := 4) (t := 3) (zero := #[.int .i64 0]) (k := .i64) hSh (of_decide_eq_true (by kernel_rfl)) (by kernel_rfl) rfl (by kernel_rfl) (by kernel_rfl) Tryd.underlying3
  obtain ⟨e1, e2⟩ := err_of_laid hL
  have hT : Tabs W := ⟨tab_of_laid hL, pow_of_laid hL, e2, e1⟩
  clear hA0 hval0 hL
  refine (walk a m W hm hT).mono fun e W' ⟨he, bel⟩ => ?_
  subst he
  exact ⟨_, rfl, _, _, _, [], _, [], hW', trodAll_mk1 (shut_bool Tryd.underlying4 _), (trodAll_cons_mk (shut_string Tryd.underlying9 y0) trodAll_mk0), rfl, bel.frame _, fun h => by cases h⟩
theorem said : Rows.FnExactReadInstrSaid :=
  OpenClaim.holds_of_wide 3 Tryd.f3 rfl rfl rfl rfl rfl rfl rfl ⟨rfl, rfl, rfl, rfl, rfl⟩ rfl rfl rfl rfl rfl (by kernel_rfl) Tryd.func3 (by kernel_rfl)
    (of_decide_eq_true (by kernel_rfl)) (by unfold Func.isWrapper; first | (rw [if_pos (by decide +kernel)]; kernel_rfl) | (rw [if_neg (by decide +kernel)]; exact ⟨rfl, rfl⟩))
    (fun os started H enc _ => lifted os started H enc)
theorem card : Rows.FnExactReadInstrCardSaid :=
  Claim7.holds_tied_plain_at .later [] [.data, .data, .data, .data, .sentinel, .sentinel, .listed, .data, .pinned] true (true, "73dfe8eafeb4e6ba7028d3540de771d2bbf20655ddbd3ae0813f1ee11e6e7b9b") true
    said (fun _ h => by cases h) (by kernel_rfl) (fun _ h => by cases h) fnExactReadInstr_row_tie rfl ⟨rfl, rfl⟩ (by kernel_rfl) rfl
    (fun f fn hf hfn => by
      obtain rfl : f = 3 := Option.some.inj ((show Tryd.prog.funcNamed "loop.example/g00684/laws.FnExactReadInstr" = some 3 by kernel_rfl).symm.trans hf) |>.symm
      obtain rfl : fn = Tryd.f3 := (Option.some.inj (Tryd.func3.symm.trans hfn)).symm
      exact ⟨by kernel_rfl, fun j t ht => by
        rw [Tryd.params3] at ht
        have hm : t ∈ [9] := by simpa using Array.mem_of_getElem? ht
        have hall : ([9].all fun u => !Tryd.prog.wantsStandIn u) = true := by kernel_rfl
        exact (show Tryd.prog.wantsStandIn t = false by simpa using List.all_eq_true.1 hall t hm)⟩)
    (by kernel_rfl)
#print axioms card
end Go.Proofs.YtkegjmkdnfpfdaaDoor.DReadInstr
namespace Go.Proofs.YtkegjmkdnfpfdaaDoor
/-- The card, under a short name, for the claim. -/
theorem fnExactReadInstrCard_holds : Rows.FnExactReadInstrCardSaid := DReadInstr.card
end Go.Proofs.YtkegjmkdnfpfdaaDoor
