/-
  The law MessageKnown (part 4 of 8).
-/
import Derived.Test.YtfbjflaijppeaaaGreatDoorMk3
import Derived.Shelf.Strings.Builder1
import Derived.Shelf.Strings.Builder2
import Derived.Shelf.Strings.OnBuilder
import Derived.Shelf.Strings.Trim
import Derived.Shelf.Small.Utf8
import Derived.Shelf.Small.Strs
import Derived.Shelf.Small.Wraps
import Derived.Shelf.Strings.BuilderF
import Derived.Shelf.Strings.BuilderK
import Derived.Shelf.Utf8.RuneCount
import Derived.Shelf.Strings.Builder2Cap
import Derived.Shelf.Strconv.Itoa0
import Derived.Shelf.Strconv.Itoa1
import Derived.Shelf.LaysM
import Derived.Shelf.Strconv.Itoa2
import Derived.Shelf.Strconv.Itoa3
import Derived.Shelf.Strings.Search1
import Derived.Shelf.Strings.Search2
import Derived.Shelf.Strings.Search3
import Derived.Shelf.Strings.Cut
import Derived.Shelf.Strings.Count
import Derived.Shelf.Strings.Shaped
import Derived.Shelf.Strings.LastIndex
import Derived.Shelf.Strings.Prefix
import Derived.Shelf.Strings.Split
import Derived.Shelf.Strings.Fold
import Derived.Shelf.Strings.SplitShaped
import Derived.Shelf.Unicode.Decode
import Derived.Shelf.Strings.Runes
import Derived.Shelf.Strings.RuneCount
import Derived.Shelf.Strings.IndexAny
import Derived.Shelf.Strings.AsciiSet
import Derived.Shelf.Strings.IndexAnyAll
import Derived.Shelf.Strings.Explode
import Derived.Shelf.Unicode.DecodeSlow
import Derived.Shelf.Unicode.DecodeAny
import Derived.Shelf.Unicode.DecodeLast
import Derived.Shelf.Unicode.CaseLookup
import Derived.Shelf.Unicode.CaseConvert
import Derived.Shelf.Strings.BuilderCap
import Derived.Shelf.Bytes.SlIndexSmall
import Derived.Shelf.Bytes.SlIndexAt
import Derived.Shelf.Bytes.SlSearch0
import Derived.Shelf.Bytes.SlSearch1
import Derived.Shelf.Bytes.SlSearch2
import Derived.Shelf.Bytes.SlIndexWhole
import Derived.Ground.SlbCloneProg
import Derived.Shelf.Bytes.SlClone
import Derived.Shelf.Bytes.SlSmallAll
import Derived.Shelf.Bytes.SlEqualAll
import Derived.Ground.SlbtProg
import Derived.Shelf.Bytes.SlCut
import Derived.Ground.PaProg
import Derived.Shelf.Path.Small
import Derived.Shelf.Bytes.Small
import Derived.Shelf.Bytes.IndexByte
import Derived.Test.YtfbjflaijppeaaaGreatDoorProg
import Derived.Shelf.Strings.SlTrimAscii
set_option linter.constructorNameAsVariable false
namespace Go.Proofs
open Go.Shelf
def Tryz.lays156_ren : Go.Shelf.Ren := ⟨fun | 156 => 55 | 165 => 98 | 166 => 99 | 169 => 100 | 240 => 143 | 241 => 144 | 276 => 200 | 277 => 201 | n => n, fun | 31 => 47 | 9 => 9 | 3 => 3 | 4 => 4 | 0 => 0 | 20 => 20 | 72 => 140 | 76 => 144 | 70 => 138 | 37 => 23 | 75 => 143 | 127 => 185 | 164 => 231 | 5 => 5 | 80 => 146 | n => n, fun | n => n⟩
theorem Tryz.lays156 : Go.Proofs.Lays.n156 Tryz.prog Tryz.lays156_ren := {
  mixed := by kernel_rfl
  f156 := Tryz.func55.trans (congrArg some krf)
  f165 := Tryz.func98.trans (congrArg some krf)
  f166 := Tryz.func99.trans (congrArg some krf)
  f169 := Tryz.func100.trans (congrArg some krf)
  f240 := Tryz.func143.trans (congrArg some krf)
  f241 := Tryz.func144.trans (congrArg some krf)
  f276 := Tryz.func200.trans (congrArg some krf)
  f277 := Tryz.func201.trans (congrArg some krf)
  t0 := Tryz.underlying0
  a0 := Tryz.isAgg0
  z0 := Tryz.sizeOf0
  v0 := Tryz.zeroValue0
  t3 := Tryz.underlying3
  a3 := Tryz.isAgg3
  z3 := Tryz.sizeOf3
  v3 := Tryz.zeroValue3
  t4 := Tryz.underlying4
  a4 := Tryz.isAgg4
  z4 := Tryz.sizeOf4
  v4 := Tryz.zeroValue4
  t9 := Tryz.underlying9
  a9 := Tryz.isAgg9
  z9 := Tryz.sizeOf9
  v9 := Tryz.zeroValue9
  t20 := Tryz.underlying20
  a20 := Tryz.isAgg20
  z20 := Tryz.sizeOf20
  v20 := Tryz.zeroValue20
  t31 := Tryz.underlying47
  a31 := Tryz.isAgg47
  z31 := Tryz.sizeOf47
  v31 := Tryz.zeroValue47
  t37 := Tryz.underlying23
  a37 := Tryz.isAgg23
  z37 := Tryz.sizeOf23
  v37 := Tryz.zeroValue23
  t70 := Tryz.underlying138
  a70 := Tryz.isAgg138
  z70 := Tryz.sizeOf138
  v70 := Tryz.zeroValue138
  t72 := Tryz.underlying140
  a72 := Tryz.isAgg140
  z72 := Tryz.sizeOf140
  v72 := Tryz.zeroValue140
  t75 := Tryz.underlying143
  a75 := Tryz.isAgg143
  z75 := Tryz.sizeOf143
  v75 := Tryz.zeroValue143
  t76 := Tryz.underlying144
  a76 := Tryz.isAgg144
  z76 := Tryz.sizeOf144
  v76 := Tryz.zeroValue144
  t127 := Tryz.underlying185
  a127 := Tryz.isAgg185
  z127 := Tryz.sizeOf185
  v127 := Tryz.zeroValue185
  t164 := Tryz.underlying231
  a164 := Tryz.isAgg231
  z164 := Tryz.sizeOf231
  v164 := Tryz.zeroValue231 }
theorem Tryz.Builder_Extra_156 : Builder.Extra Tryz.prog Tryz.lays156_ren := {
  sizeBuilder := by kernel_rfl
  liesBuilder := by kernel_rfl
  t5 := Tryz.underlying5
  a5 := Tryz.isAgg5
  z5 := Tryz.sizeOf5
  v5 := Tryz.zeroValue5
  infoByte := by kernel_rfl
  cellsByte := by kernel_rfl
  sizeByte := by kernel_rfl
  neB5 := by decide }
open Go.RowKit in
theorem Tryz.strings_Join_none (a : Option Addr) (c : Nat) (sep : ByteArray) (w : World) :
    Calls Tryz.prog 55 #[.slice a 0 c, .string sep] w fun e w' => e = .returned (.string ⟨#[]⟩) ∧ w' = w := Any.strings_Join_none Tryz.lays156 Tryz.Builder_Extra_156 a c sep w
open Go.RowKit in
theorem Tryz.strings_Join (bk o c : Nat) (xs : List ByteArray) (sep : ByteArray) (w : World) (hcells : ∀ (j : Nat) x, xs[j]? = some x → w.cell? ⟨bk, o + j, none⟩ = some (.string x)) (hbk : bk < w.heap.size) (hN : xs.length ≤ 140737488355328) (hcap : xs.length ≤ c) (hlen : (Lib.join (xs.map (·.data.toList)) sep.data.toList).length ≤ 140737488355328) :
    Calls Tryz.prog 55 #[.slice (some ⟨bk, o, none⟩) xs.length c, .string sep] w fun e w' => e = .returned (.string ⟨(Lib.join (xs.map (·.data.toList)) sep.data.toList).toArray⟩) ∧ Below w.heap.size w w' := Any.strings_Join Tryz.lays156 Tryz.Builder_Extra_156 bk o c xs sep w hcells hbk hN hcap hlen
def Tryz.lays161_ren : Go.Shelf.Ren := ⟨fun | 161 => 260 | 231 => 180 | 227 => 166 | 233 => 182 | 235 => 184 | 228 => 167 | 197 => 230 | 151 => 231 | 260 => 265 | 152 => 164 | 137 => 198 | 119 => 217 | 224 => 152 | 225 => 218 | 217 => 236 | 266 => 269 | n => n, fun | 9 => 9 | 4 => 4 | 3 => 3 | 5 => 5 | 117 => 206 | 116 => 205 | 0 => 0 | 124 => 221 | 105 => 256 | 21 => 21 | 119 => 303 | 46 => 193 | 139 => 306 | 138 => 305 | n => n, fun | 3 => 8 | 4 => 9 | n => n⟩
theorem Tryz.lays161 : Go.Proofs.Lays.n161 Tryz.prog Tryz.lays161_ren := {
  mixed := by kernel_rfl
  f119 := Tryz.func217.trans (congrArg some krf)
  f137 := Tryz.func198.trans (congrArg some krf)
  f151 := Tryz.func231.trans (congrArg some krf)
  f152 := Tryz.func164.trans (congrArg some krf)
  f161 := Tryz.func260.trans (congrArg some krf)
  f197 := Tryz.func230.trans (congrArg some krf)
  f217 := Tryz.func236.trans (congrArg some krf)
  f224 := Tryz.func152.trans (congrArg some krf)
  f225 := Tryz.func218.trans (congrArg some krf)
  f227 := Tryz.func166.trans (congrArg some krf)
  f228 := Tryz.func167.trans (congrArg some krf)
  f231 := Tryz.func180.trans (congrArg some krf)
  f233 := Tryz.func182.trans (congrArg some krf)
  f235 := Tryz.func184.trans (congrArg some krf)
  f260 := Tryz.func265.trans (congrArg some krf)
  f266 := Tryz.func269.trans (congrArg some krf)
  t0 := Tryz.underlying0
  a0 := Tryz.isAgg0
  z0 := Tryz.sizeOf0
  v0 := Tryz.zeroValue0
  t3 := Tryz.underlying3
  a3 := Tryz.isAgg3
  z3 := Tryz.sizeOf3
  v3 := Tryz.zeroValue3
  t4 := Tryz.underlying4
  a4 := Tryz.isAgg4
  z4 := Tryz.sizeOf4
  v4 := Tryz.zeroValue4
  t5 := Tryz.underlying5
  a5 := Tryz.isAgg5
  z5 := Tryz.sizeOf5
  v5 := Tryz.zeroValue5
  t9 := Tryz.underlying9
  a9 := Tryz.isAgg9
  z9 := Tryz.sizeOf9
  v9 := Tryz.zeroValue9
  t21 := Tryz.underlying21
  a21 := Tryz.isAgg21
  z21 := Tryz.sizeOf21
  v21 := Tryz.zeroValue21
  t46 := Tryz.underlying193
  a46 := Tryz.isAgg193
  z46 := Tryz.sizeOf193
  v46 := Tryz.zeroValue193
  t105 := Tryz.underlying256
  a105 := Tryz.isAgg256
  z105 := Tryz.sizeOf256
  v105 := Tryz.zeroValue256
  t116 := Tryz.underlying205
  a116 := Tryz.isAgg205
  z116 := Tryz.sizeOf205
  t117 := Tryz.underlying206
  a117 := Tryz.isAgg206
  z117 := Tryz.sizeOf206
  v117 := Tryz.zeroValue206
  t119 := Tryz.underlying303
  a119 := Tryz.isAgg303
  z119 := Tryz.sizeOf303
  t124 := Tryz.underlying221
  a124 := Tryz.isAgg221
  z124 := Tryz.sizeOf221
  v124 := Tryz.zeroValue221
  t138 := Tryz.underlying305
  a138 := Tryz.isAgg305
  z138 := Tryz.sizeOf305
  v138 := Tryz.zeroValue305
  t139 := Tryz.underlying306
  a139 := Tryz.isAgg306
  z139 := Tryz.sizeOf306
  v139 := Tryz.zeroValue306
  g3 := by kernel_rfl
  g4 := by kernel_rfl }
def Tryz.lays162_ren : Go.Shelf.Ren := ⟨fun | 162 => 162 | 232 => 181 | 227 => 166 | 234 => 183 | 236 => 185 | 228 => 167 | 271 => 232 | 151 => 231 | 120 => 266 | 197 => 230 | 152 => 164 | 260 => 265 | 137 => 198 | 119 => 217 | 224 => 152 | 225 => 218 | 217 => 236 | 266 => 269 | n => n, fun | 9 => 9 | 4 => 4 | 3 => 3 | 5 => 5 | 117 => 206 | 116 => 205 | 0 => 0 | 124 => 221 | 21 => 21 | 105 => 256 | 46 => 193 | 119 => 303 | 139 => 306 | 138 => 305 | n => n, fun | 3 => 8 | 4 => 9 | n => n⟩
theorem Tryz.lays162 : Go.Proofs.Lays.n162 Tryz.prog Tryz.lays162_ren := {
  mixed := by kernel_rfl
  f119 := Tryz.func217.trans (congrArg some krf)
  f120 := Tryz.func266.trans (congrArg some krf)
  f137 := Tryz.func198.trans (congrArg some krf)
  f151 := Tryz.func231.trans (congrArg some krf)
  f152 := Tryz.func164.trans (congrArg some krf)
  f162 := Tryz.func162.trans (congrArg some krf)
  f197 := Tryz.func230.trans (congrArg some krf)
  f217 := Tryz.func236.trans (congrArg some krf)
  f224 := Tryz.func152.trans (congrArg some krf)
  f225 := Tryz.func218.trans (congrArg some krf)
  f227 := Tryz.func166.trans (congrArg some krf)
  f228 := Tryz.func167.trans (congrArg some krf)
  f232 := Tryz.func181.trans (congrArg some krf)
  f234 := Tryz.func183.trans (congrArg some krf)
  f236 := Tryz.func185.trans (congrArg some krf)
  f260 := Tryz.func265.trans (congrArg some krf)
  f266 := Tryz.func269.trans (congrArg some krf)
  f271 := Tryz.func232.trans (congrArg some krf)
  t0 := Tryz.underlying0
  a0 := Tryz.isAgg0
  z0 := Tryz.sizeOf0
  v0 := Tryz.zeroValue0
  t3 := Tryz.underlying3
  a3 := Tryz.isAgg3
  z3 := Tryz.sizeOf3
  v3 := Tryz.zeroValue3
  t4 := Tryz.underlying4
  a4 := Tryz.isAgg4
  z4 := Tryz.sizeOf4
  v4 := Tryz.zeroValue4
  t5 := Tryz.underlying5
  a5 := Tryz.isAgg5
  z5 := Tryz.sizeOf5
  v5 := Tryz.zeroValue5
  t9 := Tryz.underlying9
  a9 := Tryz.isAgg9
  z9 := Tryz.sizeOf9
  v9 := Tryz.zeroValue9
  t21 := Tryz.underlying21
  a21 := Tryz.isAgg21
  z21 := Tryz.sizeOf21
  v21 := Tryz.zeroValue21
  t46 := Tryz.underlying193
  a46 := Tryz.isAgg193
  z46 := Tryz.sizeOf193
  v46 := Tryz.zeroValue193
  t105 := Tryz.underlying256
  a105 := Tryz.isAgg256
  z105 := Tryz.sizeOf256
  v105 := Tryz.zeroValue256
  t116 := Tryz.underlying205
  a116 := Tryz.isAgg205
  z116 := Tryz.sizeOf205
  t117 := Tryz.underlying206
  a117 := Tryz.isAgg206
  z117 := Tryz.sizeOf206
  v117 := Tryz.zeroValue206
  t119 := Tryz.underlying303
  a119 := Tryz.isAgg303
  z119 := Tryz.sizeOf303
  t124 := Tryz.underlying221
  a124 := Tryz.isAgg221
  z124 := Tryz.sizeOf221
  v124 := Tryz.zeroValue221
  t138 := Tryz.underlying305
  a138 := Tryz.isAgg305
  z138 := Tryz.sizeOf305
  v138 := Tryz.zeroValue305
  t139 := Tryz.underlying306
  a139 := Tryz.isAgg306
  z139 := Tryz.sizeOf306
  v139 := Tryz.zeroValue306
  g3 := by kernel_rfl
  g4 := by kernel_rfl }
def Tryz.lays160_ren : Go.Shelf.Ren := ⟨fun | 160 => 124 | 232 => 181 | 231 => 180 | 227 => 166 | 234 => 183 | 233 => 182 | 236 => 185 | 235 => 184 | 228 => 167 | 271 => 232 | 151 => 231 | 197 => 230 | 120 => 266 | 152 => 164 | 260 => 265 | 137 => 198 | 119 => 217 | 224 => 152 | 225 => 218 | 217 => 236 | 266 => 269 | n => n, fun | 9 => 9 | 4 => 4 | 3 => 3 | 5 => 5 | 117 => 206 | 116 => 205 | 0 => 0 | 124 => 221 | 21 => 21 | 105 => 256 | 46 => 193 | 119 => 303 | 139 => 306 | 138 => 305 | n => n, fun | 3 => 8 | 4 => 9 | n => n⟩
theorem Tryz.lays160 : Go.Proofs.Lays.n160 Tryz.prog Tryz.lays160_ren := {
  mixed := by kernel_rfl
  f119 := Tryz.func217.trans (congrArg some krf)
  f120 := Tryz.func266.trans (congrArg some krf)
  f137 := Tryz.func198.trans (congrArg some krf)
  f151 := Tryz.func231.trans (congrArg some krf)
  f152 := Tryz.func164.trans (congrArg some krf)
  f160 := Tryz.func124.trans (congrArg some krf)
  f197 := Tryz.func230.trans (congrArg some krf)
  f217 := Tryz.func236.trans (congrArg some krf)
  f224 := Tryz.func152.trans (congrArg some krf)
  f225 := Tryz.func218.trans (congrArg some krf)
  f227 := Tryz.func166.trans (congrArg some krf)
  f228 := Tryz.func167.trans (congrArg some krf)
  f231 := Tryz.func180.trans (congrArg some krf)
  f232 := Tryz.func181.trans (congrArg some krf)
  f233 := Tryz.func182.trans (congrArg some krf)
  f234 := Tryz.func183.trans (congrArg some krf)
  f235 := Tryz.func184.trans (congrArg some krf)
  f236 := Tryz.func185.trans (congrArg some krf)
  f260 := Tryz.func265.trans (congrArg some krf)
  f266 := Tryz.func269.trans (congrArg some krf)
  f271 := Tryz.func232.trans (congrArg some krf)
  t0 := Tryz.underlying0
  a0 := Tryz.isAgg0
  z0 := Tryz.sizeOf0
  v0 := Tryz.zeroValue0
  t3 := Tryz.underlying3
  a3 := Tryz.isAgg3
  z3 := Tryz.sizeOf3
  v3 := Tryz.zeroValue3
  t4 := Tryz.underlying4
  a4 := Tryz.isAgg4
  z4 := Tryz.sizeOf4
  v4 := Tryz.zeroValue4
  t5 := Tryz.underlying5
  a5 := Tryz.isAgg5
  z5 := Tryz.sizeOf5
  v5 := Tryz.zeroValue5
  t9 := Tryz.underlying9
  a9 := Tryz.isAgg9
  z9 := Tryz.sizeOf9
  v9 := Tryz.zeroValue9
  t21 := Tryz.underlying21
  a21 := Tryz.isAgg21
  z21 := Tryz.sizeOf21
  v21 := Tryz.zeroValue21
  t46 := Tryz.underlying193
  a46 := Tryz.isAgg193
  z46 := Tryz.sizeOf193
  v46 := Tryz.zeroValue193
  t105 := Tryz.underlying256
  a105 := Tryz.isAgg256
  z105 := Tryz.sizeOf256
  v105 := Tryz.zeroValue256
  t116 := Tryz.underlying205
  a116 := Tryz.isAgg205
  z116 := Tryz.sizeOf205
  t117 := Tryz.underlying206
  a117 := Tryz.isAgg206
  z117 := Tryz.sizeOf206
  v117 := Tryz.zeroValue206
  t119 := Tryz.underlying303
  a119 := Tryz.isAgg303
  z119 := Tryz.sizeOf303
  t124 := Tryz.underlying221
  a124 := Tryz.isAgg221
  z124 := Tryz.sizeOf221
  v124 := Tryz.zeroValue221
  t138 := Tryz.underlying305
  a138 := Tryz.isAgg305
  z138 := Tryz.sizeOf305
  v138 := Tryz.zeroValue305
  t139 := Tryz.underlying306
  a139 := Tryz.isAgg306
  z139 := Tryz.sizeOf306
  v139 := Tryz.zeroValue306
  g3 := by kernel_rfl
  g4 := by kernel_rfl }
def Tryz.lays137_ren : Go.Shelf.Ren := ⟨fun | 137 => 198 | 217 => 236 | 266 => 269 | n => n, fun | 9 => 9 | 5 => 5 | 3 => 3 | n => n, fun | n => n⟩
theorem Tryz.lays137 : Go.Proofs.Lays.n137 Tryz.prog Tryz.lays137_ren := {
  mixed := by kernel_rfl
  f137 := Tryz.func198.trans (congrArg some krf)
  f217 := Tryz.func236.trans (congrArg some krf)
  f266 := Tryz.func269.trans (congrArg some krf)
  t3 := Tryz.underlying3
  a3 := Tryz.isAgg3
  z3 := Tryz.sizeOf3
  v3 := Tryz.zeroValue3
  t5 := Tryz.underlying5
  a5 := Tryz.isAgg5
  z5 := Tryz.sizeOf5
  v5 := Tryz.zeroValue5
  t9 := Tryz.underlying9
  a9 := Tryz.isAgg9
  z9 := Tryz.sizeOf9
  v9 := Tryz.zeroValue9 }
open Go.RowKit in
theorem Tryz.strings_IndexByte (s : ByteArray) (c : Int) (w : World) :
    Calls Tryz.prog 198 #[.string s, .int .u8 c] w fun e w' => e = .returned (.int .i64 (Lib.indexByte s.data.toList c.toNat.toUInt8)) ∧ w' = w := Any.strings_IndexByte Tryz.lays137 s c w
def Tryz.lays103_ren : Go.Shelf.Ren := ⟨fun | 103 => 130 | 210 => 192 | 206 => 136 | n => n, fun | 9 => 9 | 4 => 4 | 24 => 45 | 3 => 3 | n => n, fun | n => n⟩
theorem Tryz.lays103 : Go.Proofs.Lays.n103 Tryz.prog Tryz.lays103_ren := {
  mixed := by kernel_rfl
  f103 := Tryz.func130.trans (congrArg some krf)
  f206 := Tryz.func136.trans (congrArg some krf)
  f210 := Tryz.func192.trans (congrArg some krf)
  t3 := Tryz.underlying3
  a3 := Tryz.isAgg3
  z3 := Tryz.sizeOf3
  v3 := Tryz.zeroValue3
  t4 := Tryz.underlying4
  a4 := Tryz.isAgg4
  z4 := Tryz.sizeOf4
  v4 := Tryz.zeroValue4
  t9 := Tryz.underlying9
  a9 := Tryz.isAgg9
  z9 := Tryz.sizeOf9
  v9 := Tryz.zeroValue9
  t24 := Tryz.underlying45
  a24 := Tryz.isAgg45
  z24 := Tryz.sizeOf45
  v24 := Tryz.zeroValue45 }
open Go.RowKit in
theorem Tryz.strings_CutPrefix (s p : ByteArray) (w : World) :
    Calls Tryz.prog 130 #[.string s, .string p] w fun e w' => e = .returned (.tuple #[.string ⟨(Lib.trimPrefix s.data.toList p.data.toList).toArray⟩, .bool (Lib.hasPrefix s.data.toList p.data.toList)]) ∧ w' = w := Any.strings_CutPrefix Tryz.lays103 s p w
def Tryz.laysM171_ren : Go.Shelf.Ren := ⟨fun | 171 => 85 | 243 => 135 | 246 => 194 | 283 => 238 | 284 => 239 | 285 => 240 | 286 => 241 | 129 => 272 | 317 => 271 | 318 => 273 | 319 => 274 | 320 => 275 | 337 => 289 | 338 => 290 | n => n, fun | 3 => 3 | 9 => 9 | 2 => 2 | 4 => 4 | 171 => 261 | 0 => 0 | 53 => 262 | 37 => 23 | 5 => 5 | 173 => 265 | 212 => 287 | 51 => 234 | 20 => 20 | 213 => 288 | 46 => 193 | 232 => 318 | 233 => 319 | n => n, fun | 17 => 3 | 18 => 10 | 19 => 11 | n => n⟩
theorem Tryz.laysM171 : Go.Proofs.LaysM.n171 Tryz.prog Tryz.laysM171_ren := {
  mixed := by kernel_rfl
  f129 := Tryz.func272.trans (congrArg some krf)
  f171 := Tryz.func85.trans (congrArg some krf)
  f243 := Tryz.func135.trans (congrArg some krf)
  f246 := Tryz.func194.trans (congrArg some krf)
  f283 := Tryz.func238.trans (congrArg some krf)
  f284 := Tryz.func239.trans (congrArg some krf)
  f285 := Tryz.func240.trans (congrArg some krf)
  f286 := Tryz.func241.trans (congrArg some krf)
  f317 := Tryz.func271.trans (congrArg some krf)
  f318 := Tryz.func273.trans (congrArg some krf)
  f319 := Tryz.func274.trans (congrArg some krf)
  f320 := Tryz.func275.trans (congrArg some krf)
  f337 := Tryz.func289.trans (congrArg some krf)
  f338 := Tryz.func290.trans (congrArg some krf)
  t0 := Tryz.underlying0
  a0 := Tryz.isAgg0
  z0 := Tryz.sizeOf0
  v0 := Tryz.zeroValue0
  t2 := Tryz.underlying2
  a2 := Tryz.isAgg2
  z2 := Tryz.sizeOf2
  v2 := Tryz.zeroValue2
  t3 := Tryz.underlying3
  a3 := Tryz.isAgg3
  z3 := Tryz.sizeOf3
  v3 := Tryz.zeroValue3
  t4 := Tryz.underlying4
  a4 := Tryz.isAgg4
  z4 := Tryz.sizeOf4
  v4 := Tryz.zeroValue4
  t5 := Tryz.underlying5
  a5 := Tryz.isAgg5
  z5 := Tryz.sizeOf5
  v5 := Tryz.zeroValue5
  t9 := Tryz.underlying9
  a9 := Tryz.isAgg9
  z9 := Tryz.sizeOf9
  v9 := Tryz.zeroValue9
  t20 := Tryz.underlying20
  a20 := Tryz.isAgg20
  z20 := Tryz.sizeOf20
  v20 := Tryz.zeroValue20
  t37 := Tryz.underlying23
  a37 := Tryz.isAgg23
  z37 := Tryz.sizeOf23
  v37 := Tryz.zeroValue23
  t46 := Tryz.underlying193
  a46 := Tryz.isAgg193
  z46 := Tryz.sizeOf193
  v46 := Tryz.zeroValue193
  t51 := Tryz.underlying234
  a51 := Tryz.isAgg234
  z51 := Tryz.sizeOf234
  v51 := Tryz.zeroValue234
  t53 := Tryz.underlying262
  a53 := Tryz.isAgg262
  z53 := Tryz.sizeOf262
  v53 := Tryz.zeroValue262
  t171 := Tryz.underlying261
  a171 := Tryz.isAgg261
  z171 := Tryz.sizeOf261
  v171 := Tryz.zeroValue261
  t173 := Tryz.underlying265
  a173 := Tryz.isAgg265
  z173 := Tryz.sizeOf265
  v173 := Tryz.zeroValue265
  t212 := Tryz.underlying287
  a212 := Tryz.isAgg287
  z212 := Tryz.sizeOf287
  v212 := Tryz.zeroValue287
  t213 := Tryz.underlying288
  a213 := Tryz.isAgg288
  z213 := Tryz.sizeOf288
  t232 := Tryz.underlying318
  a232 := Tryz.isAgg318
  z232 := Tryz.sizeOf318
  v232 := Tryz.zeroValue318
  t233 := Tryz.underlying319
  a233 := Tryz.isAgg319
  z233 := Tryz.sizeOf319
  v233 := Tryz.zeroValue319
  g17 := by kernel_rfl
  g18 := by kernel_rfl
  g19 := by kernel_rfl
  i0 := by kernel_rfl
  i2 := by kernel_rfl
  i3 := by kernel_rfl
  i4 := by kernel_rfl
  i5 := by kernel_rfl
  i9 := by kernel_rfl
  i20 := by kernel_rfl
  i37 := by kernel_rfl
  i46 := by kernel_rfl
  i51 := by kernel_rfl
  i53 := by kernel_rfl
  i171 := by kernel_rfl
  i173 := by kernel_rfl
  i212 := by kernel_rfl
  i232 := by kernel_rfl
  i233 := by kernel_rfl
  m17 := by kernel_rfl
  m18 := by kernel_rfl
  m19 := by kernel_rfl }
open Go.RowKit Go.Sort Go.Lib in
theorem Tryz.strconv_Itoa (n : Int) (h0 : -9223372036854775808 ≤ n) (h1 : n ≤ 9223372036854775807) (w : World) (htab : Lib.TabIs Tryz.prog w "internal/strconv.uint64pow10" .u64 Lib.pow10Tab) :
    Calls Tryz.prog 85 #[.int .i64 n] w fun e w' => e = .returned (.string ⟨(Lib.itoa n).toArray⟩) ∧ ∃ k os, w' = grow (w.drewN k) os := Any.strconv_Itoa Tryz.laysM171 n h0 h1 w htab
def Tryz.lays143_ren : Go.Shelf.Ren := ⟨fun | 143 => 128 | 219 => 190 | 217 => 236 | 225 => 218 | 224 => 152 | 267 => 237 | 266 => 269 | 314 => 270 | n => n, fun | 9 => 9 | 3 => 3 | 4 => 4 | 5 => 5 | 46 => 193 | 146 => 235 | 51 => 234 | n => n, fun | 1 => 1 | n => n⟩
theorem Tryz.lays143 : Go.Proofs.Lays.n143 Tryz.prog Tryz.lays143_ren := {
  mixed := by kernel_rfl
  f143 := Tryz.func128.trans (congrArg some krf)
  f217 := Tryz.func236.trans (congrArg some krf)
  f219 := Tryz.func190.trans (congrArg some krf)
  f224 := Tryz.func152.trans (congrArg some krf)
  f225 := Tryz.func218.trans (congrArg some krf)
  f266 := Tryz.func269.trans (congrArg some krf)
  f267 := Tryz.func237.trans (congrArg some krf)
  f314 := Tryz.func270.trans (congrArg some krf)
  t3 := Tryz.underlying3
  a3 := Tryz.isAgg3
  z3 := Tryz.sizeOf3
  v3 := Tryz.zeroValue3
  t4 := Tryz.underlying4
  a4 := Tryz.isAgg4
  z4 := Tryz.sizeOf4
  v4 := Tryz.zeroValue4
  t5 := Tryz.underlying5
  a5 := Tryz.isAgg5
  z5 := Tryz.sizeOf5
  v5 := Tryz.zeroValue5
  t9 := Tryz.underlying9
  a9 := Tryz.isAgg9
  z9 := Tryz.sizeOf9
  v9 := Tryz.zeroValue9
  t46 := Tryz.underlying193
  a46 := Tryz.isAgg193
  z46 := Tryz.sizeOf193
  v46 := Tryz.zeroValue193
  t51 := Tryz.underlying234
  a51 := Tryz.isAgg234
  z51 := Tryz.sizeOf234
  v51 := Tryz.zeroValue234
  t146 := Tryz.underlying235
  a146 := Tryz.isAgg235
  z146 := Tryz.sizeOf235
  v146 := Tryz.zeroValue235
  g1 := by kernel_rfl }
open Go.RowKit Go.Lib in
theorem Tryz.strings_Index (s sub : ByteArray) (m : Int) (w : World) (hs : s.size < 4294967281) (hm : w.cell? ⟨1, 0, none⟩ = some (.int .i64 m)) :
    Calls Tryz.prog 128 #[.string s, .string sub] w fun e w' => e = .returned (.int .i64 (Lib.index s.data.toList sub.data.toList)) ∧ w' = w := Any.strings_Index Tryz.lays143 s sub m w hs hm
def Tryz.lays144_ren : Go.Shelf.Ren := ⟨fun | 144 => 169 | 143 => 128 | 219 => 190 | 217 => 236 | 225 => 218 | 224 => 152 | 267 => 237 | 266 => 269 | 314 => 270 | n => n, fun | 9 => 9 | 4 => 4 | 3 => 3 | 5 => 5 | 46 => 193 | 146 => 235 | 51 => 234 | n => n, fun | 1 => 1 | n => n⟩
theorem Tryz.lays144 : Go.Proofs.Lays.n144 Tryz.prog Tryz.lays144_ren := {
  mixed := by kernel_rfl
  f143 := Tryz.func128.trans (congrArg some krf)
  f144 := Tryz.func169.trans (congrArg some krf)
  f217 := Tryz.func236.trans (congrArg some krf)
  f219 := Tryz.func190.trans (congrArg some krf)
  f224 := Tryz.func152.trans (congrArg some krf)
  f225 := Tryz.func218.trans (congrArg some krf)
  f266 := Tryz.func269.trans (congrArg some krf)
  f267 := Tryz.func237.trans (congrArg some krf)
  f314 := Tryz.func270.trans (congrArg some krf)
  t3 := Tryz.underlying3
  a3 := Tryz.isAgg3
  z3 := Tryz.sizeOf3
  v3 := Tryz.zeroValue3
  t4 := Tryz.underlying4
  a4 := Tryz.isAgg4
  z4 := Tryz.sizeOf4
  v4 := Tryz.zeroValue4
  t5 := Tryz.underlying5
  a5 := Tryz.isAgg5
  z5 := Tryz.sizeOf5
  v5 := Tryz.zeroValue5
  t9 := Tryz.underlying9
  a9 := Tryz.isAgg9
  z9 := Tryz.sizeOf9
  v9 := Tryz.zeroValue9
  t46 := Tryz.underlying193
  a46 := Tryz.isAgg193
  z46 := Tryz.sizeOf193
  v46 := Tryz.zeroValue193
  t51 := Tryz.underlying234
  a51 := Tryz.isAgg234
  z51 := Tryz.sizeOf234
  v51 := Tryz.zeroValue234
  t146 := Tryz.underlying235
  a146 := Tryz.isAgg235
  z146 := Tryz.sizeOf235
  v146 := Tryz.zeroValue235
  g1 := by kernel_rfl }
open Go.RowKit Go.Lib in
theorem Tryz.strings_Contains (s sub : ByteArray) (m : Int) (w : World) (hs : s.size < 4294967281) (hm : w.cell? ⟨1, 0, none⟩ = some (.int .i64 m)) :
    Calls Tryz.prog 169 #[.string s, .string sub] w fun e w' => e = .returned (.bool (Lib.contains s.data.toList sub.data.toList)) ∧ w' = w := Any.strings_Contains Tryz.lays144 s sub m w hs hm
def Tryz.lays145_ren : Go.Shelf.Ren := ⟨fun | 145 => 131 | 220 => 193 | 219 => 190 | 217 => 236 | 225 => 218 | 224 => 152 | 267 => 237 | 266 => 269 | 314 => 270 | n => n, fun | 9 => 9 | 4 => 4 | 59 => 162 | 3 => 3 | 5 => 5 | 46 => 193 | 146 => 235 | 51 => 234 | n => n, fun | 1 => 1 | n => n⟩
theorem Tryz.lays145 : Go.Proofs.Lays.n145 Tryz.prog Tryz.lays145_ren := {
  mixed := by kernel_rfl
  f145 := Tryz.func131.trans (congrArg some krf)
  f217 := Tryz.func236.trans (congrArg some krf)
  f219 := Tryz.func190.trans (congrArg some krf)
  f220 := Tryz.func193.trans (congrArg some krf)
  f224 := Tryz.func152.trans (congrArg some krf)
  f225 := Tryz.func218.trans (congrArg some krf)
  f266 := Tryz.func269.trans (congrArg some krf)
  f267 := Tryz.func237.trans (congrArg some krf)
  f314 := Tryz.func270.trans (congrArg some krf)
  t3 := Tryz.underlying3
  a3 := Tryz.isAgg3
  z3 := Tryz.sizeOf3
  v3 := Tryz.zeroValue3
  t4 := Tryz.underlying4
  a4 := Tryz.isAgg4
  z4 := Tryz.sizeOf4
  v4 := Tryz.zeroValue4
  t5 := Tryz.underlying5
  a5 := Tryz.isAgg5
  z5 := Tryz.sizeOf5
  v5 := Tryz.zeroValue5
  t9 := Tryz.underlying9
  a9 := Tryz.isAgg9
  z9 := Tryz.sizeOf9
  v9 := Tryz.zeroValue9
  t46 := Tryz.underlying193
  a46 := Tryz.isAgg193
  z46 := Tryz.sizeOf193
  v46 := Tryz.zeroValue193
  t51 := Tryz.underlying234
  a51 := Tryz.isAgg234
  z51 := Tryz.sizeOf234
  v51 := Tryz.zeroValue234
  t59 := Tryz.underlying162
  a59 := Tryz.isAgg162
  z59 := Tryz.sizeOf162
  v59 := Tryz.zeroValue162
  t146 := Tryz.underlying235
  a146 := Tryz.isAgg235
  z146 := Tryz.sizeOf235
  v146 := Tryz.zeroValue235
  g1 := by kernel_rfl }
open Go.RowKit Go.Lib in
theorem Tryz.strings_Cut (s sep : ByteArray) (m : Int) (w : World) (hs : s.size < 4294967281) (hm : w.cell? ⟨1, 0, none⟩ = some (.int .i64 m)) :
    Calls Tryz.prog 131 #[.string s, .string sep] w fun e w' => e = .returned (.tuple #[.string ⟨(Lib.cut s.data.toList sep.data.toList).1.toArray⟩, .string ⟨(Lib.cut s.data.toList sep.data.toList).2.1.toArray⟩, .bool (Lib.cut s.data.toList sep.data.toList).2.2]) ∧ ∃ n, w' = w.drewN n := Any.strings_Cut Tryz.lays145 s sep m w hs hm
def Tryz.lays149_ren : Go.Shelf.Ren := ⟨fun | 149 => 168 | 222 => 219 | n => n, fun | 9 => 9 | 5 => 5 | 3 => 3 | 4 => 4 | n => n, fun | n => n⟩
theorem Tryz.lays149 : Go.Proofs.Lays.n149 Tryz.prog Tryz.lays149_ren := {
  mixed := by kernel_rfl
  f149 := Tryz.func168.trans (congrArg some krf)
  f222 := Tryz.func219.trans (congrArg some krf)
  t3 := Tryz.underlying3
  a3 := Tryz.isAgg3
  z3 := Tryz.sizeOf3
  v3 := Tryz.zeroValue3
  t4 := Tryz.underlying4
  a4 := Tryz.isAgg4
  z4 := Tryz.sizeOf4
  v4 := Tryz.zeroValue4
  t5 := Tryz.underlying5
  a5 := Tryz.isAgg5
  z5 := Tryz.sizeOf5
  v5 := Tryz.zeroValue5
  t9 := Tryz.underlying9
  a9 := Tryz.isAgg9
  z9 := Tryz.sizeOf9
  v9 := Tryz.zeroValue9 }
open Go.RowKit Go.Lib in
theorem Tryz.strings_LastIndexByte (s : ByteArray) (c : Int) (hs : s.size < 4611686018427387904) (w : World) :
    Calls Tryz.prog 168 #[.string s, .int .u8 c] w fun e w' => e = .returned (.int .i64 (Lib.lastIndexByte s c)) ∧ w' = w := Any.strings_LastIndexByte Tryz.lays149 s c hs w
def Tryz.lays101_ren : Go.Shelf.Ren := ⟨fun | 101 => 251 | 208 => 282 | 206 => 136 | n => n, fun | 9 => 9 | 4 => 4 | 3 => 3 | n => n, fun | n => n⟩
theorem Tryz.lays101 : Go.Proofs.Lays.n101 Tryz.prog Tryz.lays101_ren := {
  mixed := by kernel_rfl
  f101 := Tryz.func251.trans (congrArg some krf)
  f206 := Tryz.func136.trans (congrArg some krf)
  f208 := Tryz.func282.trans (congrArg some krf)
  t3 := Tryz.underlying3
  a3 := Tryz.isAgg3
  z3 := Tryz.sizeOf3
  v3 := Tryz.zeroValue3
  t4 := Tryz.underlying4
  a4 := Tryz.isAgg4
  z4 := Tryz.sizeOf4
  v4 := Tryz.zeroValue4
  t9 := Tryz.underlying9
  a9 := Tryz.isAgg9
  z9 := Tryz.sizeOf9
  v9 := Tryz.zeroValue9 }
open Go.RowKit Go.Lib in
theorem Tryz.strings_TrimPrefix (s p : ByteArray) (w : World) :
    Calls Tryz.prog 251 #[.string s, .string p] w fun e w' => e = .returned (.string ⟨(Lib.trimPrefix s.data.toList p.data.toList).toArray⟩) ∧ w' = w := Any.strings_TrimPrefix Tryz.lays101 s p w
def Tryz.lays146_ren : Go.Shelf.Ren := ⟨fun | 146 => 221 | 221 => 261 | 268 => 284 | 138 => 285 | 143 => 128 | 195 => 294 | 197 => 230 | 218 => 295 | 219 => 190 | 260 => 265 | 217 => 236 | 225 => 218 | 224 => 152 | 267 => 237 | 266 => 269 | 314 => 270 | n => n, fun | 9 => 9 | 31 => 47 | 3 => 3 | 4 => 4 | 0 => 0 | 105 => 256 | 21 => 21 | 5 => 5 | 46 => 193 | 119 => 303 | 139 => 306 | 138 => 305 | 146 => 235 | 51 => 234 | n => n, fun | 1 => 1 | 3 => 8 | 4 => 9 | n => n⟩
theorem Tryz.lays146 : Go.Proofs.Lays.n146 Tryz.prog Tryz.lays146_ren := {
  mixed := by kernel_rfl
  f138 := Tryz.func285.trans (congrArg some krf)
  f143 := Tryz.func128.trans (congrArg some krf)
  f146 := Tryz.func221.trans (congrArg some krf)
  f195 := Tryz.func294.trans (congrArg some krf)
  f197 := Tryz.func230.trans (congrArg some krf)
  f217 := Tryz.func236.trans (congrArg some krf)
  f218 := Tryz.func295.trans (congrArg some krf)
  f219 := Tryz.func190.trans (congrArg some krf)
  f221 := Tryz.func261.trans (congrArg some krf)
  f224 := Tryz.func152.trans (congrArg some krf)
  f225 := Tryz.func218.trans (congrArg some krf)
  f260 := Tryz.func265.trans (congrArg some krf)
  f266 := Tryz.func269.trans (congrArg some krf)
  f267 := Tryz.func237.trans (congrArg some krf)
  f268 := Tryz.func284.trans (congrArg some krf)
  f314 := Tryz.func270.trans (congrArg some krf)
  t0 := Tryz.underlying0
  a0 := Tryz.isAgg0
  z0 := Tryz.sizeOf0
  v0 := Tryz.zeroValue0
  t3 := Tryz.underlying3
  a3 := Tryz.isAgg3
  z3 := Tryz.sizeOf3
  v3 := Tryz.zeroValue3
  t4 := Tryz.underlying4
  a4 := Tryz.isAgg4
  z4 := Tryz.sizeOf4
  v4 := Tryz.zeroValue4
  t5 := Tryz.underlying5
  a5 := Tryz.isAgg5
  z5 := Tryz.sizeOf5
  v5 := Tryz.zeroValue5
  t9 := Tryz.underlying9
  a9 := Tryz.isAgg9
  z9 := Tryz.sizeOf9
  v9 := Tryz.zeroValue9
  t21 := Tryz.underlying21
  a21 := Tryz.isAgg21
  z21 := Tryz.sizeOf21
  v21 := Tryz.zeroValue21
  t31 := Tryz.underlying47
  a31 := Tryz.isAgg47
  z31 := Tryz.sizeOf47
  v31 := Tryz.zeroValue47
  t46 := Tryz.underlying193
  a46 := Tryz.isAgg193
  z46 := Tryz.sizeOf193
  v46 := Tryz.zeroValue193
  t51 := Tryz.underlying234
  a51 := Tryz.isAgg234
  z51 := Tryz.sizeOf234
  v51 := Tryz.zeroValue234
  t105 := Tryz.underlying256
  a105 := Tryz.isAgg256
  z105 := Tryz.sizeOf256
  v105 := Tryz.zeroValue256
  t119 := Tryz.underlying303
  a119 := Tryz.isAgg303
  z119 := Tryz.sizeOf303
  t138 := Tryz.underlying305
  a138 := Tryz.isAgg305
  z138 := Tryz.sizeOf305
  v138 := Tryz.zeroValue305
  t139 := Tryz.underlying306
  a139 := Tryz.isAgg306
  z139 := Tryz.sizeOf306
  v139 := Tryz.zeroValue306
  t146 := Tryz.underlying235
  a146 := Tryz.isAgg235
  z146 := Tryz.sizeOf235
  v146 := Tryz.zeroValue235
  g1 := by kernel_rfl
  g3 := by kernel_rfl
  g4 := by kernel_rfl }
open Go.RowKit Go.Lib in
theorem Tryz.strings_Split (s sep : ByteArray) (m : Int) (w : World) (hs : s.size < 4294967281) (hm : w.cell? ⟨1, 0, none⟩ = some (.int .i64 m)) (h1 : 1 ≤ sep.size) :
    Calls Tryz.prog 221 #[.string s, .string sep] w fun e w' =>
      e = .returned (.slice (some ⟨w.heap.size, 0, none⟩) (Lib.countB s sep + 1) (Lib.countB s sep + 1)) ∧ w' = w.alloc (.cells ((Lib.splitB sep 0 (Lib.countB s sep) s).map Value.string).toArray 9) := Any.strings_Split Tryz.lays146 krf s sep m w hs hm h1
def Tryz.lays153_ren : Go.Shelf.Ren := ⟨fun | 153 => 115 | 152 => 164 | 226 => 165 | 227 => 166 | 228 => 167 | 137 => 198 | 119 => 217 | 224 => 152 | 225 => 218 | 217 => 236 | 266 => 269 | n => n, fun | 9 => 9 | 3 => 3 | 4 => 4 | 5 => 5 | 21 => 21 | 117 => 206 | 116 => 205 | 0 => 0 | 46 => 193 | 124 => 221 | n => n, fun | n => n⟩
theorem Tryz.lays153 : Go.Proofs.Lays.n153 Tryz.prog Tryz.lays153_ren := {
  mixed := by kernel_rfl
  f119 := Tryz.func217.trans (congrArg some krf)
  f137 := Tryz.func198.trans (congrArg some krf)
  f152 := Tryz.func164.trans (congrArg some krf)
  f153 := Tryz.func115.trans (congrArg some krf)
  f217 := Tryz.func236.trans (congrArg some krf)
  f224 := Tryz.func152.trans (congrArg some krf)
  f225 := Tryz.func218.trans (congrArg some krf)
  f226 := Tryz.func165.trans (congrArg some krf)
  f227 := Tryz.func166.trans (congrArg some krf)
  f228 := Tryz.func167.trans (congrArg some krf)
  f266 := Tryz.func269.trans (congrArg some krf)
  t0 := Tryz.underlying0
  a0 := Tryz.isAgg0
  z0 := Tryz.sizeOf0
  v0 := Tryz.zeroValue0
  t3 := Tryz.underlying3
  a3 := Tryz.isAgg3
  z3 := Tryz.sizeOf3
  v3 := Tryz.zeroValue3
  t4 := Tryz.underlying4
  a4 := Tryz.isAgg4
  z4 := Tryz.sizeOf4
  v4 := Tryz.zeroValue4
  t5 := Tryz.underlying5
  a5 := Tryz.isAgg5
  z5 := Tryz.sizeOf5
  v5 := Tryz.zeroValue5
  t9 := Tryz.underlying9
  a9 := Tryz.isAgg9
  z9 := Tryz.sizeOf9
  v9 := Tryz.zeroValue9
  t21 := Tryz.underlying21
  a21 := Tryz.isAgg21
  z21 := Tryz.sizeOf21
  v21 := Tryz.zeroValue21
  t46 := Tryz.underlying193
  a46 := Tryz.isAgg193
  z46 := Tryz.sizeOf193
  v46 := Tryz.zeroValue193
  t116 := Tryz.underlying205
  a116 := Tryz.isAgg205
  z116 := Tryz.sizeOf205
  t117 := Tryz.underlying206
  a117 := Tryz.isAgg206
  z117 := Tryz.sizeOf206
  v117 := Tryz.zeroValue206
  t124 := Tryz.underlying221
  a124 := Tryz.isAgg221
  z124 := Tryz.sizeOf221
  v124 := Tryz.zeroValue221 }
open Go.RowKit Go.Lib in
theorem Tryz.strings_IndexAny_none (s chars : ByteArray) (w : World) (h0 : chars.size = 0) :
    Calls Tryz.prog 115 #[.string s, .string chars] w fun e w' => e = .returned (.int .i64 (Lib.indexAny s.data.toList chars.data.toList)) ∧ w' = w := Any.strings_IndexAny_none Tryz.lays153 s chars w h0
open Go.RowKit Go.Lib in
theorem Tryz.strings_IndexAny_one (s chars : ByteArray) (w : World) (h1 : chars.size = 1) (hascii : ∀ (j : Nat) b, chars.data.toList[j]? = some b → b.toNat < 128) :
    Calls Tryz.prog 115 #[.string s, .string chars] w fun e w' => e = .returned (.int .i64 (Lib.indexAny s.data.toList chars.data.toList)) ∧ w' = w := Any.strings_IndexAny_one Tryz.lays153 s chars w h1 hascii
open Go.RowKit Go.Lib in
theorem Tryz.strings_IndexAny_long (hv116 : ∀ w, (zeroValue 205).run Tryz.prog w = .ok (.agg (Array.replicate 256 (.bool false))) w) (s chars : ByteArray) (w : World) (h2 : 2 ≤ chars.size) (h8 : 8 < s.size) (hs : s.size < 4294967281) (hcs : chars.size < 4294967281) (hascii : ∀ (j : Nat) b, chars.data.toList[j]? = some b → b.toNat < 128) :
    Calls Tryz.prog 115 #[.string s, .string chars] w fun e w' => e = .returned (.int .i64 (Lib.indexAny s.data.toList chars.data.toList)) ∧ w' = ((w.alloc (.cells (Lib.setCells chars.data.toList) 205)).alloc (.cells (Lib.setCells chars.data.toList) 205)) := Any.strings_IndexAny_long Tryz.lays153 hv116 krf s chars w h2 h8 hs hcs hascii
open Go.RowKit Go.Lib in
theorem Tryz.strings_IndexAny_laid (s chars : ByteArray) (w : World) (hs : s.size < 4294967281) (hcs : chars.size < 4294967281) (has : ∀ (j : Nat) b, s.data.toList[j]? = some b → b.toNat < 128) (hac : ∀ (j : Nat) b, chars.data.toList[j]? = some b → b.toNat < 128) :
    Calls Tryz.prog 115 #[.string s, .string chars] w fun e w' => e = .returned (.int .i64 (Lib.indexAny s.data.toList chars.data.toList)) ∧ Below w.heap.size w w' := Any.strings_IndexAny_laid Tryz.lays153 krf s chars w hs hcs has hac
def Tryz.lays185_ren : Go.Shelf.Ren := ⟨fun | 185 => 104 | 187 => 150 | 115 => 134 | 253 => 151 | 224 => 152 | 254 => 153 | 255 => 205 | 291 => 206 | n => n, fun | 37 => 23 | 3 => 3 | 4 => 4 | 0 => 0 | 5 => 5 | 46 => 193 | 9 => 9 | 146 => 235 | 51 => 234 | n => n, fun | 1 => 1 | n => n⟩
theorem Tryz.lays185 : Go.Proofs.Lays.n185 Tryz.prog Tryz.lays185_ren := {
  mixed := by kernel_rfl
  f115 := Tryz.func134.trans (congrArg some krf)
  f185 := Tryz.func104.trans (congrArg some krf)
  f187 := Tryz.func150.trans (congrArg some krf)
  f224 := Tryz.func152.trans (congrArg some krf)
  f253 := Tryz.func151.trans (congrArg some krf)
  f254 := Tryz.func153.trans (congrArg some krf)
  f255 := Tryz.func205.trans (congrArg some krf)
  f291 := Tryz.func206.trans (congrArg some krf)
  t0 := Tryz.underlying0
  a0 := Tryz.isAgg0
  z0 := Tryz.sizeOf0
  v0 := Tryz.zeroValue0
  t3 := Tryz.underlying3
  a3 := Tryz.isAgg3
  z3 := Tryz.sizeOf3
  v3 := Tryz.zeroValue3
  t4 := Tryz.underlying4
  a4 := Tryz.isAgg4
  z4 := Tryz.sizeOf4
  v4 := Tryz.zeroValue4
  t5 := Tryz.underlying5
  a5 := Tryz.isAgg5
  z5 := Tryz.sizeOf5
  v5 := Tryz.zeroValue5
  t9 := Tryz.underlying9
  a9 := Tryz.isAgg9
  z9 := Tryz.sizeOf9
  v9 := Tryz.zeroValue9
  t37 := Tryz.underlying23
  a37 := Tryz.isAgg23
  z37 := Tryz.sizeOf23
  v37 := Tryz.zeroValue23
  t46 := Tryz.underlying193
  a46 := Tryz.isAgg193
  z46 := Tryz.sizeOf193
  v46 := Tryz.zeroValue193
  t51 := Tryz.underlying234
  a51 := Tryz.isAgg234
  z51 := Tryz.sizeOf234
  v51 := Tryz.zeroValue234
  t146 := Tryz.underlying235
  a146 := Tryz.isAgg235
  z146 := Tryz.sizeOf235
  v146 := Tryz.zeroValue235
  g1 := by kernel_rfl }
open Go.Proofs Go.RowKit Go.Lib in
theorem Tryz.bytes_Index_at (a1 a2 : Addr) (n c1 k c2 : Nat) (xs ys : List Int) (m : Int) (w : World) (hx : xs.length = n) (hy : ys.length = k) (hr1 : ∀ x ∈ xs, 0 ≤ x ∧ x < 256) (hr2 : ∀ y ∈ ys, 0 ≤ y ∧ y < 256) (hc1 : ∀ i, i < n → w.cell? (a1.add i) = some (.int .u8 (xs.getD i 0))) (hc2 : ∀ i, i < k → w.cell? (a2.add i) = some (.int .u8 (ys.getD i 0))) (hcap : n ≤ c1) (hs : n < 4294967281) (hk : k ≤ 9223372036854775807) (hm : w.cell? ⟨1, 0, none⟩ = some (.int .i64 m)) :
    Calls Tryz.prog 104 #[.slice (some a1) n c1, .slice (some a2) k c2] w fun e w' => e = .returned (.int .i64 (Lib.index (Lib.bytesOf xs) (Lib.bytesOf ys))) ∧ ∃ q, w' = w.drewN q := Any.bytes_Index_at Tryz.lays185 a1 a2 n c1 k c2 xs ys m w hx hy hr1 hr2 hc1 hc2 hcap hs hk hm
open Go.Proofs Go.RowKit Go.Lib in
theorem Tryz.bytes_Index_nil (p2 : Option Addr) (k c2 : Nat) (w : World) (hk : k ≤ 9223372036854775807) (h1 : k = 1 → ∃ b2 o2 cv, p2 = some ⟨b2, o2, none⟩ ∧ w.cell? ⟨b2, o2, none⟩ = some (.int .u8 cv)) :
    Calls Tryz.prog 104 #[.slice none 0 0, .slice p2 k c2] w fun e w' => e = .returned (.int .i64 (if k = 0 then 0 else -1)) ∧ w' = w := Any.bytes_Index_nil Tryz.lays185 p2 k c2 w hk h1
end Go.Proofs
set_option linter.unusedVariables false
set_option linter.unusedSimpArgs false
set_option maxRecDepth 20000
namespace Go.Proofs
open Go.Wk Go.Px
open Go.Value renaming slice → Vs, int → Vi, bool → Vb, pointer → Vp
theorem sh_IndexByte (s : List UInt8) (c : UInt8) (w : World) : CR Tryz.prog 198 [str s, bt c] w fun v w' => v = .int .i64 (ixb (· == c) s) ∧ Hp w [] [] w' := by
  have h := Tryz.strings_IndexByte ⟨s.toArray⟩ (c.toNat : Int) w
  rw [show ((c.toNat : Int).toNat.toUInt8) = c by simp] at h
  rw [← indexByte_ixb]
  exact abg h
theorem sh_LastIndexByte (s : List UInt8) (c : UInt8) (w : World) (hs : s.length ≤ 1000000000) : CR Tryz.prog 168 [str s, bt c] w fun v w' => v = .int .i64 (lixb (· == c) s) ∧ Hp w [] [] w' := by
  have h := Tryz.strings_LastIndexByte ⟨s.toArray⟩ (c.toNat : Int) (by show s.length < _; omega) w
  rw [lastIndexByte_lixb] at h
  exact abg h
theorem sh_Contains (s t : List UInt8) (w : World) (hs : s.length ≤ 1000000000) (hG : Gl w) : CR Tryz.prog 169 [str s, str t] w fun v w' => v = .bool (Lib.contains s t) ∧ Hp w [] [] w' := by
  obtain ⟨m, hm⟩ := hG.cell
  exact abg (Tryz.strings_Contains ⟨s.toArray⟩ ⟨t.toArray⟩ m w (by show s.length < _; omega) hm)
theorem sh_Index (s t : List UInt8) (w : World) (hs : s.length ≤ 1000000000) (hG : Gl w) : CR Tryz.prog 128 [str s, str t] w fun v w' => v = .int .i64 (Lib.index s t) ∧ Hp w [] [] w' := by
  obtain ⟨m, hm⟩ := hG.cell
  exact abg (Tryz.strings_Index ⟨s.toArray⟩ ⟨t.toArray⟩ m w (by show s.length < _; omega) hm)
theorem sh_Cut (s t : List UInt8) (w : World) (hs : s.length ≤ 1000000000) (hG : Gl w) : CR Tryz.prog 131 [str s, str t] w fun v w' => v = .tuple #[str (Lib.cut s t).1, str (Lib.cut s t).2.1, .bool (Lib.cut s t).2.2] ∧ Hp w [] [] w' := by
  obtain ⟨m, hm⟩ := hG.cell
  exact cr_drew (Tryz.strings_Cut ⟨s.toArray⟩ ⟨t.toArray⟩ m w (by show s.length < _; omega) hm)
theorem sh_CutPrefix (s t : List UInt8) (w : World) : CR Tryz.prog 130 [str s, str t] w fun v w' => v = .tuple #[str (Lib.trimPrefix s t), .bool (Lib.hasPrefix s t)] ∧ Hp w [] [] w' := by
  exact abg (Tryz.strings_CutPrefix ⟨s.toArray⟩ ⟨t.toArray⟩ w)
theorem sh_TrimPrefix (s t : List UInt8) (w : World) : CR Tryz.prog 251 [str s, str t] w fun v w' => v = str (Lib.trimPrefix s t) ∧ Hp w [] [] w' := by
  exact abg (Tryz.strings_TrimPrefix ⟨s.toArray⟩ ⟨t.toArray⟩ w)
theorem sh_Trim (s t : List UInt8) (w : World) (hs : s.length ≤ 1000000000) (ht : t.length ≤ 1000 ∧ t.all (fun b => decide (b.toNat < 128)) = true) : CR Tryz.prog 124 [str s, str t] w fun v w' => v = str (Lib.trimS s t) ∧ Hp w [] [] w' := by
  exact cr_below (Any.strings_Trim_laid Tryz.lays160 krf ⟨s.toArray⟩ ⟨t.toArray⟩ w (by show s.length ≤ _; omega) (by show t.length < _; omega) (ascii_of_all ht.2))
theorem sh_TrimLeft (s t : List UInt8) (w : World) (hs : s.length ≤ 1000000000) (ht : t.length ≤ 1000 ∧ t.all (fun b => decide (b.toNat < 128)) = true) : CR Tryz.prog 260 [str s, str t] w fun v w' => v = str (Lib.trimLeftS s t) ∧ Hp w [] [] w' := by
  exact cr_below (Any.strings_TrimLeft_laid Tryz.lays161 krf ⟨s.toArray⟩ ⟨t.toArray⟩ w (by show t.length < _; omega) (ascii_of_all ht.2))
theorem sh_TrimRight (s t : List UInt8) (w : World) (hs : s.length ≤ 1000000000) (ht : t.length ≤ 1000 ∧ t.all (fun b => decide (b.toNat < 128)) = true) : CR Tryz.prog 162 [str s, str t] w fun v w' => v = str (Lib.trimRightS s t) ∧ Hp w [] [] w' := by
  exact cr_below (Any.strings_TrimRight_laid Tryz.lays162 krf ⟨s.toArray⟩ ⟨t.toArray⟩ w (by show s.length ≤ _; omega) (by show t.length < _; omega) (ascii_of_all ht.2))
theorem sh_Itoa (i : Int) (w : World) (hi : ok64 i) (hG : Gl w) : CR Tryz.prog 85 [.int .i64 i] w fun v w' => v = str (Lib.itoa i) ∧ Hp w [] [] w' := by
  obtain ⟨t, f, e⟩ := hG.pow10
  have hT : Lib.TabIs Tryz.prog w "internal/strconv.uint64pow10" .u64 Lib.pow10Tab := by
    unfold Lib.TabIs World.var?
    rw [show Tryz.prog.globalNamed "internal/strconv.uint64pow10" = some 3 by kernel_rfl]
    simp [e]
  have h := Tryz.strconv_Itoa i hi.1 hi.2 w hT
  exact Calls.mono h fun _ _ ⟨e, k, os, hb⟩ => ⟨_, e, rfl, hb ▸ hp_grow k os⟩
theorem sh_Split (s : List UInt8) (c : UInt8) (w : World) (hs : s.length ≤ 1000000000) (hG : Gl w) : CR Tryz.prog 221 [str s, str [c]] w fun v w' => ∃ o a cap, v = .slice a (spl c s).length cap ∧ Hp w [] [rwt eS 9 1 o a cap (spl c s)] w' := by
  obtain ⟨m, hm⟩ := hG.cell
  have h := Tryz.strings_Split ⟨s.toArray⟩ ⟨#[c]⟩ m w (by show s.length < _; omega) hm (by show 1 ≤ 1; omega)
  rw [split_spl, split_spl_len] at h
  refine Calls.mono h ?_
  rintro _ _ ⟨rfl, rfl⟩
  have h1 := (Hp.refl w).alloc ((spl c s).map str) 9
  have := (spl_sum c s).1
  have e : (spl c s).flatMap eS = (spl c s).map str := by
    generalize spl c s = l
    induction l with
    | nil => rfl
    | cons x l ih => rw [List.flatMap_cons, ih]; rfl
  exact ⟨_, rfl, some w.heap.size, _, _, rfl, h1.blkrw 0 1 (spl c s).length (spl c s) rfl enc_S e rfl (by simp [maxLen]; omega)⟩
theorem flatS (l : List (List UInt8)) : l.flatMap eS = l.map str := by
  induction l with
  | nil => rfl
  | cons x l ih => rw [List.flatMap_cons, ih]; rfl
theorem sh_Join (t : List UInt8) (w : World) (a : Option Addr) (n cap : Nat) (xs : List (List UInt8)) (hn : n = xs.length) (hRe : Rd w a (xs.flatMap eS)) (hCa : n ≤ cap) (hN : xs.length ≤ 1000000000 ∧ (Lib.join xs t).length ≤ 100000000000) : CR Tryz.prog 55 [.slice a n cap, str t] w fun v w' => v = str (Lib.join xs t) ∧ Hp w [] [] w' := by
  subst hn
  rw [flatS] at hRe
  cases xs with
  | nil => exact abg (Tryz.strings_Join_none a cap ⟨t.toArray⟩ w)
  | cons x r =>
    obtain ⟨p, rfl, hp⟩ := hRe 0 (str x) (by simp)
    have hbk := cell_lt hp
    rw [add_block] at hbk
    have hsp : p.spot = none := by
      have := rd_spot hp
      simpa [Addr.add] using this
    obtain ⟨bk, o, sp⟩ := p
    simp only at hsp hbk
    subst hsp
    have e : ((x :: r).map fun l => (⟨l.toArray⟩ : ByteArray)).map (·.data.toList) = x :: r := by rw [List.map_map]; exact List.map_id _
    have h := Tryz.strings_Join bk o cap ((x :: r).map fun l => (⟨l.toArray⟩ : ByteArray)) ⟨t.toArray⟩ w (fun j y hy => by
      have := row_strs ⟨bk, o, none⟩ (x :: r) hRe j y hy
      cases j <;> simpa [Addr.add] using this) hbk (by rw [List.length_map]; omega) (by rw [List.length_map]; exact hCa) (by rw [e]; show (Lib.join (x :: r) t).length ≤ _; omega)
    rw [e, List.length_map] at h
    exact cr_below h
theorem sh_bIndex (a1 a2 : Addr) (n c1 k c2 : Nat) (s t : List UInt8) (w : World) (hn : s.length = n) (hk : t.length = k) (h1 : Rd w (some a1) (s.map bt)) (h2 : Rd w (some a2) (t.map bt)) (hc : n ≤ c1) (hs : n ≤ 1000000000) (ht : k ≤ 1000000000) (hG : Gl w) : CR Tryz.prog 104 [.slice (some a1) n c1, .slice (some a2) k c2] w fun v w' => v = .int .i64 (Lib.index s t) ∧ Hp w [] [] w' := by
  obtain ⟨m, hm⟩ := hG.cell
  have cell : ∀ (a : Addr) (l : List UInt8) (N : Nat), l.length = N → Rd w (some a) (l.map bt) → ∀ i, i < N → w.cell? (a.add i) = some (.int .u8 ((l.map fun b => (b.toNat : Int)).getD i 0)) := by
    intro a l N hN hR i hi
    obtain ⟨p, hp, e⟩ := hR i (bt (l[i]'(by omega))) (by simp [hN, hi])
    cases hp
    rw [e]
    simp [bt, List.getD, hN, hi]
  have rng : ∀ (l : List UInt8), ∀ x ∈ (l.map fun b => (b.toNat : Int)), 0 ≤ x ∧ x < 256 := by
    intro l x hx
    obtain ⟨b, _, rfl⟩ := List.mem_map.1 hx
    exact ⟨by omega, by have := b.toNat_lt; omega⟩
  have bo : ∀ (l : List UInt8), Lib.bytesOf (l.map fun b => (b.toNat : Int)) = l := by
    intro l
    unfold Lib.bytesOf
    rw [List.map_map]
    conv => rhs; rw [← List.map_id l]
    refine List.map_congr_left fun b _ => ?_
    simp
  have h := Tryz.bytes_Index_at a1 a2 n c1 k c2 (s.map fun b => (b.toNat : Int)) (t.map fun b => (b.toNat : Int)) m w (by simp [hn]) (by simp [hk]) (rng s) (rng t) (cell a1 s n hn h1) (cell a2 t k hk h2) hc (by omega) (by omega) hm
  rw [bo, bo] at h
  exact cr_drew h
theorem sh_bIndex0 (a : Option Addr) (k c : Nat) (w : World) (h2 : 2 ≤ k) (hk : k ≤ 1000000000) : CR Tryz.prog 104 [.slice none 0 0, .slice a k c] w fun v w' => v = .int .i64 (-1) ∧ Hp w [] [] w' := by
  have h := Tryz.bytes_Index_nil a k c w (by omega) (fun e => by omega)
  rw [if_neg (by omega)] at h
  exact abg h
theorem sh_IndexAny (s t : List UInt8) (w : World) (h : s.length ≤ 1000000000 ∧ t.length ≤ 1000 ∧ t.all (fun b => decide (b.toNat < 128)) = true ∧ (8 < s.length ∨ t.length ≤ 1 ∨ s.all (fun b => decide (b.toNat < 128)) = true)) : CR Tryz.prog 115 [str s, str t] w fun v w' => v = .int .i64 (Lib.indexAny s t) ∧ Hp w [] [] w' := by
  obtain ⟨h1, h2, h3, h4⟩ := h
  by_cases h0 : t.length = 0
  · exact abg (Tryz.strings_IndexAny_none ⟨s.toArray⟩ ⟨t.toArray⟩ w h0)
  by_cases h1' : t.length = 1
  · exact abg (Tryz.strings_IndexAny_one ⟨s.toArray⟩ ⟨t.toArray⟩ w h1' (ascii_of_all h3))
  rcases h4 with h4 | h4 | h4
  · have hz : ∀ w, (zeroValue 205).run Tryz.prog w = .ok (.agg (Array.replicate 256 (.bool false))) w := (zero_of_info (n := 256) krf).1
    have h := Tryz.strings_IndexAny_long hz ⟨s.toArray⟩ ⟨t.toArray⟩ w (by show 2 ≤ t.length; omega) (by show 8 < s.length; omega) (by show s.length < _; omega) (by show t.length < _; omega) (ascii_of_all h3)
    refine Calls.mono h ?_
    rintro _ _ ⟨rfl, rfl⟩
    exact ⟨_, rfl, rfl, Hp.ofBelow ⟨rfl, rfl, rfl, by simp; omega, fun k hk => by rw [RowKit.Below.heap_alloc _ _ k (by simp; omega), RowKit.Below.heap_alloc _ _ k hk]⟩⟩
  · omega
  · exact cr_below (Tryz.strings_IndexAny_laid ⟨s.toArray⟩ ⟨t.toArray⟩ w (by show s.length < _; omega) (by show t.length < _; omega) (ascii_of_all h4) (ascii_of_all h3))
theorem sh_copyCheck (b : Nat) (z : Bool) (s : Value) (w : World) (hM : Hp w (owns [blk b [Vp (bif z then some ⟨b, 0, none⟩ else none), s] 140]) [blk b [Vp (bif z then some ⟨b, 0, none⟩ else none), s] 140] w) : CR Tryz.prog 143 [Vp (some ⟨b, 0, none⟩)] w fun v w' => v = .tuple #[] ∧ Hp w (owns [blk b [Vp (bif z then some ⟨b, 0, none⟩ else none), s] 140]) [blk b [Vp (some ⟨b, 0, none⟩), s] 140] w' := by
  cases z with
  | false =>
    have hH : Hp w (owns [blk b [(Vp none), s] 140]) [blk b [(Vp none), s] 140] w := hM
    refine enter (k := 20) Tryz.func143 rfl rfl (Nat.le_of_ble_eq_true rfl) ?_
    refine c_seq ?_
    refine c_region ?_
    refine w_move (Vp (some ⟨b, 0, none⟩)) krf ?_
    refine abj (v := (Vp (some ⟨b, 0, none⟩))) (w' := w) rfl rfl krf ?_
    refine abj (v := (Vp (some ⟨b, 0, none⟩))) (w' := w) rfl rfl krf ?_
    refine w_ld1 hH 0 b 0 [(Vp none), s] 140 (Vp none) rfl rfl krf krf ?_
    refine w_pnil none Tryz.underlying138 krf krf ?_
    refine w_nil ?_
    refine q_next ?_
    refine c_true krf ?_
    refine c_region ?_
    refine w_move (Vp (some ⟨b, 0, none⟩)) krf ?_
    refine w_move (Vp (some ⟨b, 0, none⟩)) krf ?_
    refine w_toUns hH 0 b 0 140 [(Vp none), s] rfl Tryz.underlying138 Tryz.underlying231 krf (by simp) krf ?_
    refine w_noEsc hH 200 (Vp (some ⟨b, 0, none⟩)) krf krf Tryz.func200 krf krf krf krf ?_
    intro w1 a0
    refine w_ofUns a0 0 b 0 140 [(Vp none), s] rfl Tryz.underlying231 Tryz.underlying138 krf krf krf ?_
    refine abj (v := (Vp (some ⟨b, 0, none⟩))) (w' := w1) rfl rfl krf ?_
    refine abj (v := (Vp (some ⟨b, 0, none⟩))) (w' := w1) rfl rfl krf ?_
    refine w_st1 a0 0 b 0 [(Vp none), s] 140 (Vp (some ⟨b, 0, none⟩)) [blk b [(Vp (some ⟨b, 0, none⟩)), s] 140] rfl (Nat.lt_of_lt_of_le (Nat.lt_succ_self _) (Nat.le_of_ble_eq_true rfl)) krf krf rfl krf rfl ?_
    intro w3 a1
    refine w_nil ?_
    refine r_none'  rfl  ?_
    exact ⟨rfl, a1.kp⟩
  | true =>
    have hH : Hp w (owns [blk b [(Vp (some ⟨b, 0, none⟩)), s] 140]) [blk b [(Vp (some ⟨b, 0, none⟩)), s] 140] w := hM
    refine enter (k := 20) Tryz.func143 rfl rfl (Nat.le_of_ble_eq_true rfl) ?_
    refine c_seq ?_
    refine c_region ?_
    refine w_move (Vp (some ⟨b, 0, none⟩)) krf ?_
    refine abj (v := (Vp (some ⟨b, 0, none⟩))) (w' := w) rfl rfl krf ?_
    refine abj (v := (Vp (some ⟨b, 0, none⟩))) (w' := w) rfl rfl krf ?_
    refine w_ld1 hH 0 b 0 [(Vp (some ⟨b, 0, none⟩)), s] 140 (Vp (some ⟨b, 0, none⟩)) rfl rfl krf krf ?_
    refine w_pnil (some ⟨b, 0, none⟩) Tryz.underlying138 krf krf ?_
    refine w_nil ?_
    refine q_next ?_
    refine c_false krf ?_
    refine c_seq ?_
    refine c_region ?_
    refine w_move (Vp (some ⟨b, 0, none⟩)) krf ?_
    refine abj (v := (Vp (some ⟨b, 0, none⟩))) (w' := w) rfl rfl krf ?_
    refine abj (v := (Vp (some ⟨b, 0, none⟩))) (w' := w) rfl rfl krf ?_
    refine w_ld1 hH 0 b 0 [(Vp (some ⟨b, 0, none⟩)), s] 140 (Vp (some ⟨b, 0, none⟩)) rfl rfl krf krf ?_
    refine w_move (Vp (some ⟨b, 0, none⟩)) krf ?_
    refine w_pself ⟨b, 0, none⟩ Tryz.underlying138 krf krf krf ?_
    refine w_nil ?_
    refine q_next ?_
    refine c_false krf ?_
    refine c_skip ?_
    refine r_none'  rfl  ?_
    exact ⟨rfl, hH.kp⟩
end Go.Proofs
set_option linter.unusedVariables false
set_option linter.unusedSimpArgs false
set_option maxRecDepth 20000
namespace Go.Proofs
open Go.Wk Go.Px Go.Ce
theorem beqn (c : UInt8) : (fun d : UInt8 => Nat.beq d.toNat c.toNat) = (· == c) := by
  funext d
  rw [Bool.eq_iff_iff]
  simp [Nat.beq_eq, UInt8.toNat_inj]
def cg0 : List SC := [.s 7 19220757857722691, .s 4 1902465859, .s 12 34178039824424540632871946573, .s 6 76223546812749, .s 4 1801666898, .s 4 1902465874, .s 16 134856309279822869049672161412773271383]
def cg2 : List SC := [.s 4 1836020294, .i .i64 1, .s 2 28500, .i .i64 1, .s 7 32760367514808131, .i .i64 1, .s 5 435745550162, .i .i64 1, .s 12 31398775957419736383438939474, .i .i64 1, .s 4 1752457552, .i .i64 1, .s 13 8038086645099452779117220619603, .i .i64 1, .s 8 8022086805604427090, .i .i64 1, .s 11 146592537699037055746991442, .i .i64 1, .s 8 8022086835787294034, .i .i64 1, .s 3 6383958, .i .i64 2, .s 4 1902465859, .i .i64 3, .s 4 1801666898, .i .i64 4, .s 14 2118593076047644386086300223958851, .i .i64 5, .s 7 32481164391381061, .i .i64 5, .s 12 35712208859136432295261004109, .i .i64 5, .s 11 139505538796981402030991693, .i .i64 5, .s 4 1902465874, .i .i64 5, .s 19 2462787319963300618914069775828421739474218819, .i .i64 6, .s 12 31393958642898984038472511299, .i .i64 6, .s 5 500068349509, .i .i64 6, .s 6 76223546812749, .i .i64 6, .s 15 599171726743894305243344019148465491, .i .i64 6, .s 18 8837943172779679942406515151746074144830803, .i .i64 6, .s 6 128026086171457, .i .i64 7, .s 5 512970484801, .i .i64 7, .s 12 35731532856486514854116224065, .i .i64 7, .s 13 8037453196880052494869233365584, .i .i64 7, .s 7 28554769915274578, .i .i64 7, .s 9 1851985001289037673811, .i .i64 7, .s 11 121371689044478372993003093, .i .i64 7]
noncomputable def cxG (k : Nat) : Option (List SC) := bi (Nat.beq k (nat_lit 0)) (some cg0) (bi (Nat.beq k (nat_lit 2)) (some cg2) (none))
noncomputable def cx55 : List SV → Hs → Option (SV × Hs) := xjoin
noncomputable def cx85 : List SV → Hs → Option (SV × Hs) := xi fun a => cv (str (Lib.itoa a))
noncomputable def cx104 : List SV → Hs → Option (SV × Hs) := xbix
noncomputable def cx115 : List SV → Hs → Option (SV × Hs) := xs2 fun a b => bi (Nat.ble (aax a) (nat_lit 1000000000)) (bi (Nat.ble (aax b) (nat_lit 1000)) (bi (b.all (fun b => decide (b.toNat < 128))) (bi (or (Nat.ble (nat_lit 9) (aax a)) (or (Nat.ble (aax b) (nat_lit 1)) (a.all (fun b => decide (b.toNat < 128))))) (cv (.int .i64 (Lib.indexAny a b))) none) none) none) none
noncomputable def cx124 : List SV → Hs → Option (SV × Hs) := xs2 fun a b => bi (Nat.ble (aax a) (nat_lit 1000000000)) (bi (Nat.ble (aax b) (nat_lit 1000)) (bi (b.all (fun b => decide (b.toNat < 128))) (cv (str (Lib.trimS a b))) none) none) none
noncomputable def cx128 : List SV → Hs → Option (SV × Hs) := xs2 fun a b => bi (Nat.ble (aax a) (nat_lit 1000000000)) (cv (.int .i64 (Lib.index a b))) none
noncomputable def cx130 : List SV → Hs → Option (SV × Hs) := xs2 fun a b => cvT [str (Lib.trimPrefix a b), .bool (Lib.hasPrefix a b)]
noncomputable def cx131 : List SV → Hs → Option (SV × Hs) := xs2 fun a b => bi (Nat.ble (aax a) (nat_lit 1000000000)) (cvT [str (Lib.cut a b).1, str (Lib.cut a b).2.1, .bool (Lib.cut a b).2.2]) none
noncomputable def cx143 : List SV → Hs → Option (SV × Hs) := xcc 140
noncomputable def cx162 : List SV → Hs → Option (SV × Hs) := xs2 fun a b => bi (Nat.ble (aax a) (nat_lit 1000000000)) (bi (Nat.ble (aax b) (nat_lit 1000)) (bi (b.all (fun b => decide (b.toNat < 128))) (cv (str (Lib.trimRightS a b))) none) none) none
noncomputable def cx168 : List SV → Hs → Option (SV × Hs) := xsb fun a b => bi (Nat.ble (aax a) (nat_lit 1000000000)) (cv (.int .i64 (lixb (fun d => Nat.beq d.toNat b.toNat) a))) none
noncomputable def cx169 : List SV → Hs → Option (SV × Hs) := xs2 fun a b => bi (Nat.ble (aax a) (nat_lit 1000000000)) (cv (.bool (Lib.contains a b))) none
noncomputable def cx198 : List SV → Hs → Option (SV × Hs) := xsb fun a b => cv (.int .i64 (ixb (fun d => Nat.beq d.toNat b.toNat) a))
noncomputable def cx221 : List SV → Hs → Option (SV × Hs) := xsplit 9
noncomputable def cx251 : List SV → Hs → Option (SV × Hs) := xs2 fun a b => cv (str (Lib.trimPrefix a b))
noncomputable def cx260 : List SV → Hs → Option (SV × Hs) := xs2 fun a b => bi (Nat.ble (aax a) (nat_lit 1000000000)) (bi (Nat.ble (aax b) (nat_lit 1000)) (bi (b.all (fun b => decide (b.toNat < 128))) (cv (str (Lib.trimLeftS a b))) none) none) none
noncomputable def cxX (k : Nat) : Option (List SV → Hs → Option (SV × Hs)) := bi (Nat.blt k (nat_lit 143)) (bi (Nat.blt k (nat_lit 124)) (bi (Nat.blt k (nat_lit 104)) (bi (Nat.blt k (nat_lit 85)) (bi (Nat.beq k (nat_lit 55)) (some cx55) (none)) (bi (Nat.beq k (nat_lit 85)) (some cx85) (none))) (bi (Nat.blt k (nat_lit 115)) (bi (Nat.beq k (nat_lit 104)) (some cx104) (none)) (bi (Nat.beq k (nat_lit 115)) (some cx115) (none)))) (bi (Nat.blt k (nat_lit 130)) (bi (Nat.blt k (nat_lit 128)) (bi (Nat.beq k (nat_lit 124)) (some cx124) (none)) (bi (Nat.beq k (nat_lit 128)) (some cx128) (none))) (bi (Nat.blt k (nat_lit 131)) (bi (Nat.beq k (nat_lit 130)) (some cx130) (none)) (bi (Nat.beq k (nat_lit 131)) (some cx131) (none))))) (bi (Nat.blt k (nat_lit 198)) (bi (Nat.blt k (nat_lit 168)) (bi (Nat.blt k (nat_lit 162)) (bi (Nat.beq k (nat_lit 143)) (some cx143) (none)) (bi (Nat.beq k (nat_lit 162)) (some cx162) (none))) (bi (Nat.blt k (nat_lit 169)) (bi (Nat.beq k (nat_lit 168)) (some cx168) (none)) (bi (Nat.beq k (nat_lit 169)) (some cx169) (none)))) (bi (Nat.blt k (nat_lit 251)) (bi (Nat.blt k (nat_lit 221)) (bi (Nat.beq k (nat_lit 198)) (some cx198) (none)) (bi (Nat.beq k (nat_lit 221)) (some cx221) (none))) (bi (Nat.blt k (nat_lit 260)) (bi (Nat.beq k (nat_lit 251)) (some cx251) (none)) (bi (Nat.beq k (nat_lit 260)) (some cx260) (none)))))
noncomputable def cxP (k : Nat) : Bool := bi (Nat.blt k (nat_lit 194)) (bi (Nat.blt k (nat_lit 123)) (bi (Nat.blt k (nat_lit 74)) (bi (Nat.blt k (nat_lit 48)) (bi (Nat.blt k (nat_lit 12)) (bi (Nat.blt k (nat_lit 2)) (bi (Nat.blt k (nat_lit 1)) (bi (Nat.beq k (nat_lit 0)) (true) (false)) (bi (Nat.beq k (nat_lit 1)) (true) (false))) (bi (Nat.blt k (nat_lit 6)) (bi (Nat.beq k (nat_lit 2)) (true) (false)) (bi (Nat.blt k (nat_lit 7)) (bi (Nat.beq k (nat_lit 6)) (true) (false)) (bi (Nat.beq k (nat_lit 7)) (true) (false))))) (bi (Nat.blt k (nat_lit 26)) (bi (Nat.blt k (nat_lit 21)) (bi (Nat.beq k (nat_lit 12)) (true) (false)) (bi (Nat.beq k (nat_lit 21)) (true) (false))) (bi (Nat.blt k (nat_lit 40)) (bi (Nat.beq k (nat_lit 26)) (true) (false)) (bi (Nat.blt k (nat_lit 41)) (bi (Nat.beq k (nat_lit 40)) (true) (false)) (bi (Nat.beq k (nat_lit 41)) (true) (false)))))) (bi (Nat.blt k (nat_lit 60)) (bi (Nat.blt k (nat_lit 50)) (bi (Nat.blt k (nat_lit 49)) (bi (Nat.beq k (nat_lit 48)) (true) (false)) (bi (Nat.beq k (nat_lit 49)) (true) (false))) (bi (Nat.blt k (nat_lit 53)) (bi (Nat.beq k (nat_lit 50)) (true) (false)) (bi (Nat.blt k (nat_lit 59)) (bi (Nat.beq k (nat_lit 53)) (true) (false)) (bi (Nat.beq k (nat_lit 59)) (true) (false))))) (bi (Nat.blt k (nat_lit 67)) (bi (Nat.blt k (nat_lit 61)) (bi (Nat.beq k (nat_lit 60)) (true) (false)) (bi (Nat.blt k (nat_lit 64)) (bi (Nat.beq k (nat_lit 61)) (true) (false)) (bi (Nat.beq k (nat_lit 64)) (true) (false)))) (bi (Nat.blt k (nat_lit 72)) (bi (Nat.beq k (nat_lit 67)) (true) (false)) (bi (Nat.blt k (nat_lit 73)) (bi (Nat.beq k (nat_lit 72)) (true) (false)) (bi (Nat.beq k (nat_lit 73)) (true) (false))))))) (bi (Nat.blt k (nat_lit 96)) (bi (Nat.blt k (nat_lit 79)) (bi (Nat.blt k (nat_lit 76)) (bi (Nat.blt k (nat_lit 75)) (bi (Nat.beq k (nat_lit 74)) (true) (false)) (bi (Nat.beq k (nat_lit 75)) (true) (false))) (bi (Nat.blt k (nat_lit 77)) (bi (Nat.beq k (nat_lit 76)) (true) (false)) (bi (Nat.blt k (nat_lit 78)) (bi (Nat.beq k (nat_lit 77)) (true) (false)) (bi (Nat.beq k (nat_lit 78)) (true) (false))))) (bi (Nat.blt k (nat_lit 87)) (bi (Nat.blt k (nat_lit 85)) (bi (Nat.beq k (nat_lit 79)) (true) (false)) (bi (Nat.beq k (nat_lit 85)) (true) (false))) (bi (Nat.blt k (nat_lit 89)) (bi (Nat.beq k (nat_lit 87)) (true) (false)) (bi (Nat.blt k (nat_lit 95)) (bi (Nat.beq k (nat_lit 89)) (true) (false)) (bi (Nat.beq k (nat_lit 95)) (true) (false)))))) (bi (Nat.blt k (nat_lit 111)) (bi (Nat.blt k (nat_lit 103)) (bi (Nat.blt k (nat_lit 101)) (bi (Nat.beq k (nat_lit 96)) (true) (false)) (bi (Nat.beq k (nat_lit 101)) (true) (false))) (bi (Nat.blt k (nat_lit 108)) (bi (Nat.beq k (nat_lit 103)) (true) (false)) (bi (Nat.blt k (nat_lit 109)) (bi (Nat.beq k (nat_lit 108)) (true) (false)) (bi (Nat.beq k (nat_lit 109)) (true) (false))))) (bi (Nat.blt k (nat_lit 115)) (bi (Nat.blt k (nat_lit 112)) (bi (Nat.beq k (nat_lit 111)) (true) (false)) (bi (Nat.blt k (nat_lit 114)) (bi (Nat.beq k (nat_lit 112)) (true) (false)) (bi (Nat.beq k (nat_lit 114)) (true) (false)))) (bi (Nat.blt k (nat_lit 116)) (bi (Nat.beq k (nat_lit 115)) (true) (false)) (bi (Nat.blt k (nat_lit 117)) (bi (Nat.beq k (nat_lit 116)) (true) (false)) (bi (Nat.beq k (nat_lit 117)) (true) (false)))))))) (bi (Nat.blt k (nat_lit 158)) (bi (Nat.blt k (nat_lit 136)) (bi (Nat.blt k (nat_lit 130)) (bi (Nat.blt k (nat_lit 125)) (bi (Nat.blt k (nat_lit 124)) (bi (Nat.beq k (nat_lit 123)) (true) (false)) (bi (Nat.beq k (nat_lit 124)) (true) (false))) (bi (Nat.blt k (nat_lit 128)) (bi (Nat.beq k (nat_lit 125)) (true) (false)) (bi (Nat.blt k (nat_lit 129)) (bi (Nat.beq k (nat_lit 128)) (true) (false)) (bi (Nat.beq k (nat_lit 129)) (true) (false))))) (bi (Nat.blt k (nat_lit 132)) (bi (Nat.blt k (nat_lit 131)) (bi (Nat.beq k (nat_lit 130)) (true) (false)) (bi (Nat.beq k (nat_lit 131)) (true) (false))) (bi (Nat.blt k (nat_lit 133)) (bi (Nat.beq k (nat_lit 132)) (true) (false)) (bi (Nat.blt k (nat_lit 135)) (bi (Nat.beq k (nat_lit 133)) (true) (false)) (bi (Nat.beq k (nat_lit 135)) (true) (false)))))) (bi (Nat.blt k (nat_lit 145)) (bi (Nat.blt k (nat_lit 139)) (bi (Nat.blt k (nat_lit 138)) (bi (Nat.beq k (nat_lit 136)) (true) (false)) (bi (Nat.beq k (nat_lit 138)) (true) (false))) (bi (Nat.blt k (nat_lit 140)) (bi (Nat.beq k (nat_lit 139)) (true) (false)) (bi (Nat.blt k (nat_lit 141)) (bi (Nat.beq k (nat_lit 140)) (true) (false)) (bi (Nat.beq k (nat_lit 141)) (true) (false))))) (bi (Nat.blt k (nat_lit 154)) (bi (Nat.blt k (nat_lit 149)) (bi (Nat.beq k (nat_lit 145)) (true) (false)) (bi (Nat.blt k (nat_lit 152)) (bi (Nat.beq k (nat_lit 149)) (true) (false)) (bi (Nat.beq k (nat_lit 152)) (true) (false)))) (bi (Nat.blt k (nat_lit 155)) (bi (Nat.beq k (nat_lit 154)) (true) (false)) (bi (Nat.blt k (nat_lit 157)) (bi (Nat.beq k (nat_lit 155)) (true) (false)) (bi (Nat.beq k (nat_lit 157)) (true) (false))))))) (bi (Nat.blt k (nat_lit 172)) (bi (Nat.blt k (nat_lit 166)) (bi (Nat.blt k (nat_lit 163)) (bi (Nat.blt k (nat_lit 162)) (bi (Nat.beq k (nat_lit 158)) (true) (false)) (bi (Nat.beq k (nat_lit 162)) (true) (false))) (bi (Nat.blt k (nat_lit 164)) (bi (Nat.beq k (nat_lit 163)) (true) (false)) (bi (Nat.blt k (nat_lit 165)) (bi (Nat.beq k (nat_lit 164)) (true) (false)) (bi (Nat.beq k (nat_lit 165)) (true) (false))))) (bi (Nat.blt k (nat_lit 169)) (bi (Nat.blt k (nat_lit 168)) (bi (Nat.beq k (nat_lit 166)) (true) (false)) (bi (Nat.beq k (nat_lit 168)) (true) (false))) (bi (Nat.blt k (nat_lit 170)) (bi (Nat.beq k (nat_lit 169)) (true) (false)) (bi (Nat.blt k (nat_lit 171)) (bi (Nat.beq k (nat_lit 170)) (true) (false)) (bi (Nat.beq k (nat_lit 171)) (true) (false)))))) (bi (Nat.blt k (nat_lit 185)) (bi (Nat.blt k (nat_lit 180)) (bi (Nat.blt k (nat_lit 173)) (bi (Nat.beq k (nat_lit 172)) (true) (false)) (bi (Nat.beq k (nat_lit 173)) (true) (false))) (bi (Nat.blt k (nat_lit 181)) (bi (Nat.beq k (nat_lit 180)) (true) (false)) (bi (Nat.blt k (nat_lit 184)) (bi (Nat.beq k (nat_lit 181)) (true) (false)) (bi (Nat.beq k (nat_lit 184)) (true) (false))))) (bi (Nat.blt k (nat_lit 191)) (bi (Nat.blt k (nat_lit 186)) (bi (Nat.beq k (nat_lit 185)) (true) (false)) (bi (Nat.blt k (nat_lit 190)) (bi (Nat.beq k (nat_lit 186)) (true) (false)) (bi (Nat.beq k (nat_lit 190)) (true) (false)))) (bi (Nat.blt k (nat_lit 192)) (bi (Nat.beq k (nat_lit 191)) (true) (false)) (bi (Nat.blt k (nat_lit 193)) (bi (Nat.beq k (nat_lit 192)) (true) (false)) (bi (Nat.beq k (nat_lit 193)) (true) (false))))))))) (bi (Nat.blt k (nat_lit 266)) (bi (Nat.blt k (nat_lit 235)) (bi (Nat.blt k (nat_lit 214)) (bi (Nat.blt k (nat_lit 202)) (bi (Nat.blt k (nat_lit 197)) (bi (Nat.blt k (nat_lit 196)) (bi (Nat.beq k (nat_lit 194)) (true) (false)) (bi (Nat.beq k (nat_lit 196)) (true) (false))) (bi (Nat.blt k (nat_lit 198)) (bi (Nat.beq k (nat_lit 197)) (true) (false)) (bi (Nat.blt k (nat_lit 199)) (bi (Nat.beq k (nat_lit 198)) (true) (false)) (bi (Nat.beq k (nat_lit 199)) (true) (false))))) (bi (Nat.blt k (nat_lit 204)) (bi (Nat.blt k (nat_lit 203)) (bi (Nat.beq k (nat_lit 202)) (true) (false)) (bi (Nat.beq k (nat_lit 203)) (true) (false))) (bi (Nat.blt k (nat_lit 208)) (bi (Nat.beq k (nat_lit 204)) (true) (false)) (bi (Nat.blt k (nat_lit 212)) (bi (Nat.beq k (nat_lit 208)) (true) (false)) (bi (Nat.beq k (nat_lit 212)) (true) (false)))))) (bi (Nat.blt k (nat_lit 222)) (bi (Nat.blt k (nat_lit 217)) (bi (Nat.blt k (nat_lit 216)) (bi (Nat.beq k (nat_lit 214)) (true) (false)) (bi (Nat.beq k (nat_lit 216)) (true) (false))) (bi (Nat.blt k (nat_lit 218)) (bi (Nat.beq k (nat_lit 217)) (true) (false)) (bi (Nat.blt k (nat_lit 219)) (bi (Nat.beq k (nat_lit 218)) (true) (false)) (bi (Nat.beq k (nat_lit 219)) (true) (false))))) (bi (Nat.blt k (nat_lit 231)) (bi (Nat.blt k (nat_lit 224)) (bi (Nat.beq k (nat_lit 222)) (true) (false)) (bi (Nat.blt k (nat_lit 230)) (bi (Nat.beq k (nat_lit 224)) (true) (false)) (bi (Nat.beq k (nat_lit 230)) (true) (false)))) (bi (Nat.blt k (nat_lit 232)) (bi (Nat.beq k (nat_lit 231)) (true) (false)) (bi (Nat.blt k (nat_lit 234)) (bi (Nat.beq k (nat_lit 232)) (true) (false)) (bi (Nat.beq k (nat_lit 234)) (true) (false))))))) (bi (Nat.blt k (nat_lit 247)) (bi (Nat.blt k (nat_lit 242)) (bi (Nat.blt k (nat_lit 237)) (bi (Nat.blt k (nat_lit 236)) (bi (Nat.beq k (nat_lit 235)) (true) (false)) (bi (Nat.beq k (nat_lit 236)) (true) (false))) (bi (Nat.blt k (nat_lit 238)) (bi (Nat.beq k (nat_lit 237)) (true) (false)) (bi (Nat.blt k (nat_lit 239)) (bi (Nat.beq k (nat_lit 238)) (true) (false)) (bi (Nat.beq k (nat_lit 239)) (true) (false))))) (bi (Nat.blt k (nat_lit 244)) (bi (Nat.blt k (nat_lit 243)) (bi (Nat.beq k (nat_lit 242)) (true) (false)) (bi (Nat.beq k (nat_lit 243)) (true) (false))) (bi (Nat.blt k (nat_lit 245)) (bi (Nat.beq k (nat_lit 244)) (true) (false)) (bi (Nat.blt k (nat_lit 246)) (bi (Nat.beq k (nat_lit 245)) (true) (false)) (bi (Nat.beq k (nat_lit 246)) (true) (false)))))) (bi (Nat.blt k (nat_lit 253)) (bi (Nat.blt k (nat_lit 250)) (bi (Nat.blt k (nat_lit 248)) (bi (Nat.beq k (nat_lit 247)) (true) (false)) (bi (Nat.beq k (nat_lit 248)) (true) (false))) (bi (Nat.blt k (nat_lit 251)) (bi (Nat.beq k (nat_lit 250)) (true) (false)) (bi (Nat.blt k (nat_lit 252)) (bi (Nat.beq k (nat_lit 251)) (true) (false)) (bi (Nat.beq k (nat_lit 252)) (true) (false))))) (bi (Nat.blt k (nat_lit 259)) (bi (Nat.blt k (nat_lit 255)) (bi (Nat.beq k (nat_lit 253)) (true) (false)) (bi (Nat.blt k (nat_lit 257)) (bi (Nat.beq k (nat_lit 255)) (true) (false)) (bi (Nat.beq k (nat_lit 257)) (true) (false)))) (bi (Nat.blt k (nat_lit 260)) (bi (Nat.beq k (nat_lit 259)) (true) (false)) (bi (Nat.blt k (nat_lit 265)) (bi (Nat.beq k (nat_lit 260)) (true) (false)) (bi (Nat.beq k (nat_lit 265)) (true) (false)))))))) (bi (Nat.blt k (nat_lit 302)) (bi (Nat.blt k (nat_lit 279)) (bi (Nat.blt k (nat_lit 272)) (bi (Nat.blt k (nat_lit 269)) (bi (Nat.blt k (nat_lit 268)) (bi (Nat.beq k (nat_lit 266)) (true) (false)) (bi (Nat.beq k (nat_lit 268)) (true) (false))) (bi (Nat.blt k (nat_lit 270)) (bi (Nat.beq k (nat_lit 269)) (true) (false)) (bi (Nat.blt k (nat_lit 271)) (bi (Nat.beq k (nat_lit 270)) (true) (false)) (bi (Nat.beq k (nat_lit 271)) (true) (false))))) (bi (Nat.blt k (nat_lit 274)) (bi (Nat.blt k (nat_lit 273)) (bi (Nat.beq k (nat_lit 272)) (true) (false)) (bi (Nat.beq k (nat_lit 273)) (true) (false))) (bi (Nat.blt k (nat_lit 275)) (bi (Nat.beq k (nat_lit 274)) (true) (false)) (bi (Nat.blt k (nat_lit 276)) (bi (Nat.beq k (nat_lit 275)) (true) (false)) (bi (Nat.beq k (nat_lit 276)) (true) (false)))))) (bi (Nat.blt k (nat_lit 289)) (bi (Nat.blt k (nat_lit 281)) (bi (Nat.blt k (nat_lit 280)) (bi (Nat.beq k (nat_lit 279)) (true) (false)) (bi (Nat.beq k (nat_lit 280)) (true) (false))) (bi (Nat.blt k (nat_lit 282)) (bi (Nat.beq k (nat_lit 281)) (true) (false)) (bi (Nat.blt k (nat_lit 285)) (bi (Nat.beq k (nat_lit 282)) (true) (false)) (bi (Nat.beq k (nat_lit 285)) (true) (false))))) (bi (Nat.blt k (nat_lit 294)) (bi (Nat.blt k (nat_lit 290)) (bi (Nat.beq k (nat_lit 289)) (true) (false)) (bi (Nat.blt k (nat_lit 293)) (bi (Nat.beq k (nat_lit 290)) (true) (false)) (bi (Nat.beq k (nat_lit 293)) (true) (false)))) (bi (Nat.blt k (nat_lit 295)) (bi (Nat.beq k (nat_lit 294)) (true) (false)) (bi (Nat.blt k (nat_lit 301)) (bi (Nat.beq k (nat_lit 295)) (true) (false)) (bi (Nat.beq k (nat_lit 301)) (true) (false))))))) (bi (Nat.blt k (nat_lit 321)) (bi (Nat.blt k (nat_lit 307)) (bi (Nat.blt k (nat_lit 304)) (bi (Nat.blt k (nat_lit 303)) (bi (Nat.beq k (nat_lit 302)) (true) (false)) (bi (Nat.beq k (nat_lit 303)) (true) (false))) (bi (Nat.blt k (nat_lit 305)) (bi (Nat.beq k (nat_lit 304)) (true) (false)) (bi (Nat.blt k (nat_lit 306)) (bi (Nat.beq k (nat_lit 305)) (true) (false)) (bi (Nat.beq k (nat_lit 306)) (true) (false))))) (bi (Nat.blt k (nat_lit 318)) (bi (Nat.blt k (nat_lit 308)) (bi (Nat.beq k (nat_lit 307)) (true) (false)) (bi (Nat.blt k (nat_lit 317)) (bi (Nat.beq k (nat_lit 308)) (true) (false)) (bi (Nat.beq k (nat_lit 317)) (true) (false)))) (bi (Nat.blt k (nat_lit 319)) (bi (Nat.beq k (nat_lit 318)) (true) (false)) (bi (Nat.blt k (nat_lit 320)) (bi (Nat.beq k (nat_lit 319)) (true) (false)) (bi (Nat.beq k (nat_lit 320)) (true) (false)))))) (bi (Nat.blt k (nat_lit 326)) (bi (Nat.blt k (nat_lit 323)) (bi (Nat.blt k (nat_lit 322)) (bi (Nat.beq k (nat_lit 321)) (true) (false)) (bi (Nat.beq k (nat_lit 322)) (true) (false))) (bi (Nat.blt k (nat_lit 324)) (bi (Nat.beq k (nat_lit 323)) (true) (false)) (bi (Nat.blt k (nat_lit 325)) (bi (Nat.beq k (nat_lit 324)) (true) (false)) (bi (Nat.beq k (nat_lit 325)) (true) (false))))) (bi (Nat.blt k (nat_lit 329)) (bi (Nat.blt k (nat_lit 327)) (bi (Nat.beq k (nat_lit 326)) (true) (false)) (bi (Nat.blt k (nat_lit 328)) (bi (Nat.beq k (nat_lit 327)) (true) (false)) (bi (Nat.beq k (nat_lit 328)) (true) (false)))) (bi (Nat.blt k (nat_lit 330)) (bi (Nat.beq k (nat_lit 329)) (true) (false)) (bi (Nat.blt k (nat_lit 331)) (bi (Nat.beq k (nat_lit 330)) (true) (false)) (bi (Nat.beq k (nat_lit 331)) (true) (false)))))))))
noncomputable def cxV (k : Nat) : Bool := bi (Nat.beq k (nat_lit 93)) (true) (false)
noncomputable def cx : Cx := ⟨Tryz.prog, cxG, cxX, cxP, cxV⟩
theorem cx_g {w : World} (hG : Gl w) : Gok cxG w := by
  intro g cs h
  unfold cxG at h
  rw [aae] at h
  split at h
  · rename_i hk
    rw [aad] at hk
    have hk : g = 0 := hk
    subst hk
    cases h
    obtain ⟨t, f, e⟩ := hG.specials
    exact ⟨okL_ok (show okL 0 cg0 = true by kernel_rfl), t, f, fun E => by rw [e]; kernel_rfl⟩
  rw [aae] at h
  split at h
  · rename_i hk
    rw [aad] at hk
    have hk : g = 2 := hk
    subst hk
    cases h
    obtain ⟨t, f, e⟩ := hG.kinds
    exact ⟨okL_ok (show okL 0 cg2 = true by kernel_rfl), t, f, fun E => by rw [e]; kernel_rfl⟩
  cases h
theorem cx_names : (Tryz.prog.funcs.all fun fn => !(fn.name == "runtime.NumGoroutine")) = true := by kernel_rfl
theorem cx_ok : Cok cx Gl where
  gp := fun h hp => h.hp0 hp
  g := cx_g
  ng := fun f fn h => by
    have h1 := Array.all_eq_true'.1 cx_names fn (Array.mem_of_getElem? h)
    simpa using h1
  mo := by kernel_rfl
  ov := fun k h => by
    have h : cxV k = true := h
    unfold cxV at h
    rw [aae] at h
    split at h
    · rename_i hk
      rw [aad] at hk
      have hk : k = 93 := hk
      subst hk
      exact ⟨Tryz.f93, 22, 4, 54, 2, Tryz.func93, by kernel_rfl, by kernel_rfl, by kernel_rfl, Tryz.underlying22, by kernel_rfl⟩
    cases h
theorem ent_55 : Go.Wk.Enters cx.P 55 := ⟨Tryz.f55, _, Tryz.func55, rfl, by kernel_rfl⟩
theorem cx55_ok (hC : Cok cx Gl) : aan cx Gl cx55 55 := xjoin_ok hC ent_55 fun t w a n cap xs h1 h2 h3 h4 => sh_Join t w a n cap xs h1 h2 h3 h4
theorem ent_85 : Go.Wk.Enters cx.P 85 := ⟨Tryz.f85, _, Tryz.func85, rfl, by kernel_rfl⟩
theorem cx85_ok (hC : Cok cx Gl) : aan cx Gl cx85 85 := xi_ok hC ent_85 fun a v h => by
  exact ⟨cv_pl h, fun E w hG hb => CR.mono (sh_Itoa a w hb hG) fun V w' hv => ⟨hv.1.trans (abf h E 0).1.symm, hv.2⟩⟩
theorem ent_104 : Go.Wk.Enters cx.P 104 := ⟨Tryz.f104, _, Tryz.func104, rfl, by kernel_rfl⟩
theorem cx104_ok (hC : Cok cx Gl) : aan cx Gl cx104 104 := xbix_ok hC ent_104 (fun a1 a2 n c1 k c2 s t w hn hk h1 h2 hc hs ht hG => sh_bIndex a1 a2 n c1 k c2 s t w hn hk h1 h2 hc hs ht hG) (fun a k c w h2 hk => sh_bIndex0 a k c w h2 hk)
theorem ent_115 : Go.Wk.Enters cx.P 115 := ⟨Tryz.f115, _, Tryz.func115, rfl, by kernel_rfl⟩
theorem cx115_ok (hC : Cok cx Gl) : aan cx Gl cx115 115 := xs2_ok hC ent_115 fun a b v h => by
  obtain ⟨h1, h⟩ := aab h; rw [aac, aaf] at h1; obtain ⟨h2, h⟩ := aab h; rw [aac, aaf] at h2; obtain ⟨h3, h⟩ := aab h; obtain ⟨h4, h⟩ := aab h; simp only [Bool.or_eq_true, aac, aaf] at h4; exact ⟨cv_pl h, fun E w hG => CR.mono (sh_IndexAny a b w ⟨h1, h2, h3, h4⟩) fun V w' hv => ⟨hv.1.trans (abf h E 0).1.symm, hv.2⟩⟩
theorem ent_124 : Go.Wk.Enters cx.P 124 := ⟨Tryz.f124, _, Tryz.func124, rfl, by kernel_rfl⟩
theorem cx124_ok (hC : Cok cx Gl) : aan cx Gl cx124 124 := xs2_ok hC ent_124 fun a b v h => by
  obtain ⟨h1, h⟩ := aab h; rw [aac, aaf] at h1; obtain ⟨h2, h⟩ := aab h; rw [aac, aaf] at h2; obtain ⟨h3, h⟩ := aab h; exact ⟨cv_pl h, fun E w hG => CR.mono (sh_Trim a b w h1 ⟨h2, h3⟩) fun V w' hv => ⟨hv.1.trans (abf h E 0).1.symm, hv.2⟩⟩
theorem ent_128 : Go.Wk.Enters cx.P 128 := ⟨Tryz.f128, _, Tryz.func128, rfl, by kernel_rfl⟩
theorem cx128_ok (hC : Cok cx Gl) : aan cx Gl cx128 128 := xs2_ok hC ent_128 fun a b v h => by
  obtain ⟨h1, h⟩ := aab h; rw [aac, aaf] at h1; exact ⟨cv_pl h, fun E w hG => CR.mono (sh_Index a b w h1 hG) fun V w' hv => ⟨hv.1.trans (abf h E 0).1.symm, hv.2⟩⟩
theorem ent_130 : Go.Wk.Enters cx.P 130 := ⟨Tryz.f130, _, Tryz.func130, rfl, by kernel_rfl⟩
theorem cx130_ok (hC : Cok cx Gl) : aan cx Gl cx130 130 := xs2_ok hC ent_130 fun a b v h => by
  exact ⟨(cvT_ok h (fun _ => (0, 0))).2, fun E w hG => CR.mono (sh_CutPrefix a b w) fun V w' hv => ⟨hv.1.trans (cvT_ok h E).1.symm, hv.2⟩⟩
theorem ent_131 : Go.Wk.Enters cx.P 131 := ⟨Tryz.f131, _, Tryz.func131, rfl, by kernel_rfl⟩
theorem cx131_ok (hC : Cok cx Gl) : aan cx Gl cx131 131 := xs2_ok hC ent_131 fun a b v h => by
  obtain ⟨h1, h⟩ := aab h; rw [aac, aaf] at h1; exact ⟨(cvT_ok h (fun _ => (0, 0))).2, fun E w hG => CR.mono (sh_Cut a b w h1 hG) fun V w' hv => ⟨hv.1.trans (cvT_ok h E).1.symm, hv.2⟩⟩
theorem ent_143 : Go.Wk.Enters cx.P 143 := ⟨Tryz.f143, _, Tryz.func143, rfl, by kernel_rfl⟩
theorem cx143_ok (hC : Cok cx Gl) : aan cx Gl cx143 143 := xcc_ok hC ent_143 fun b z s w h => sh_copyCheck b z s w h
theorem ent_162 : Go.Wk.Enters cx.P 162 := ⟨Tryz.f162, _, Tryz.func162, rfl, by kernel_rfl⟩
theorem cx162_ok (hC : Cok cx Gl) : aan cx Gl cx162 162 := xs2_ok hC ent_162 fun a b v h => by
  obtain ⟨h1, h⟩ := aab h; rw [aac, aaf] at h1; obtain ⟨h2, h⟩ := aab h; rw [aac, aaf] at h2; obtain ⟨h3, h⟩ := aab h; exact ⟨cv_pl h, fun E w hG => CR.mono (sh_TrimRight a b w h1 ⟨h2, h3⟩) fun V w' hv => ⟨hv.1.trans (abf h E 0).1.symm, hv.2⟩⟩
theorem ent_168 : Go.Wk.Enters cx.P 168 := ⟨Tryz.f168, _, Tryz.func168, rfl, by kernel_rfl⟩
theorem cx168_ok (hC : Cok cx Gl) : aan cx Gl cx168 168 := xsb_ok hC ent_168 fun a b v h => by
  obtain ⟨h1, h⟩ := aab h; rw [aac, aaf] at h1; exact ⟨cv_pl h, fun E w hG => CR.mono (sh_LastIndexByte a b w h1) fun V w' hv => ⟨hv.1.trans (by rw [(abf h E 0).1, beqn]), hv.2⟩⟩
theorem ent_169 : Go.Wk.Enters cx.P 169 := ⟨Tryz.f169, _, Tryz.func169, rfl, by kernel_rfl⟩
theorem cx169_ok (hC : Cok cx Gl) : aan cx Gl cx169 169 := xs2_ok hC ent_169 fun a b v h => by
  obtain ⟨h1, h⟩ := aab h; rw [aac, aaf] at h1; exact ⟨cv_pl h, fun E w hG => CR.mono (sh_Contains a b w h1 hG) fun V w' hv => ⟨hv.1.trans (abf h E 0).1.symm, hv.2⟩⟩
theorem ent_198 : Go.Wk.Enters cx.P 198 := ⟨Tryz.f198, _, Tryz.func198, rfl, by kernel_rfl⟩
theorem cx198_ok (hC : Cok cx Gl) : aan cx Gl cx198 198 := xsb_ok hC ent_198 fun a b v h => by
  exact ⟨cv_pl h, fun E w hG => CR.mono (sh_IndexByte a b w) fun V w' hv => ⟨hv.1.trans (by rw [(abf h E 0).1, beqn]), hv.2⟩⟩
theorem ent_221 : Go.Wk.Enters cx.P 221 := ⟨Tryz.f221, _, Tryz.func221, rfl, by kernel_rfl⟩
theorem cx221_ok (hC : Cok cx Gl) : aan cx Gl cx221 221 := xsplit_ok hC ent_221 fun s c w hG h => sh_Split s c w h hG
theorem ent_251 : Go.Wk.Enters cx.P 251 := ⟨Tryz.f251, _, Tryz.func251, rfl, by kernel_rfl⟩
theorem cx251_ok (hC : Cok cx Gl) : aan cx Gl cx251 251 := xs2_ok hC ent_251 fun a b v h => by
  exact ⟨cv_pl h, fun E w hG => CR.mono (sh_TrimPrefix a b w) fun V w' hv => ⟨hv.1.trans (abf h E 0).1.symm, hv.2⟩⟩
theorem ent_260 : Go.Wk.Enters cx.P 260 := ⟨Tryz.f260, _, Tryz.func260, rfl, by kernel_rfl⟩
theorem cx260_ok (hC : Cok cx Gl) : aan cx Gl cx260 260 := xs2_ok hC ent_260 fun a b v h => by
  obtain ⟨h1, h⟩ := aab h; rw [aac, aaf] at h1; obtain ⟨h2, h⟩ := aab h; rw [aac, aaf] at h2; obtain ⟨h3, h⟩ := aab h; exact ⟨cv_pl h, fun E w hG => CR.mono (sh_TrimLeft a b w h1 ⟨h2, h3⟩) fun V w' hv => ⟨hv.1.trans (abf h E 0).1.symm, hv.2⟩⟩
theorem cx_x : Xok cx Gl := by
  intro k f h
  have h : cxX k = some f := h
  unfold cxX at h
  rw [aae] at h
  split at h
  · rw [aae] at h
    split at h
    · rw [aae] at h
      split at h
      · rw [aae] at h
        split at h
        · rw [aae] at h
          split at h
          · rename_i hk
            rw [aad] at hk
            have hk : k = 55 := hk
            subst hk
            cases h
            exact cx55_ok cx_ok
          · cases h
        · rw [aae] at h
          split at h
          · rename_i hk
            rw [aad] at hk
            have hk : k = 85 := hk
            subst hk
            cases h
            exact cx85_ok cx_ok
          · cases h
      · rw [aae] at h
        split at h
        · rw [aae] at h
          split at h
          · rename_i hk
            rw [aad] at hk
            have hk : k = 104 := hk
            subst hk
            cases h
            exact cx104_ok cx_ok
          · cases h
        · rw [aae] at h
          split at h
          · rename_i hk
            rw [aad] at hk
            have hk : k = 115 := hk
            subst hk
            cases h
            exact cx115_ok cx_ok
          · cases h
    · rw [aae] at h
      split at h
      · rw [aae] at h
        split at h
        · rw [aae] at h
          split at h
          · rename_i hk
            rw [aad] at hk
            have hk : k = 124 := hk
            subst hk
            cases h
            exact cx124_ok cx_ok
          · cases h
        · rw [aae] at h
          split at h
          · rename_i hk
            rw [aad] at hk
            have hk : k = 128 := hk
            subst hk
            cases h
            exact cx128_ok cx_ok
          · cases h
      · rw [aae] at h
        split at h
        · rw [aae] at h
          split at h
          · rename_i hk
            rw [aad] at hk
            have hk : k = 130 := hk
            subst hk
            cases h
            exact cx130_ok cx_ok
          · cases h
        · rw [aae] at h
          split at h
          · rename_i hk
            rw [aad] at hk
            have hk : k = 131 := hk
            subst hk
            cases h
            exact cx131_ok cx_ok
          · cases h
  · rw [aae] at h
    split at h
    · rw [aae] at h
      split at h
      · rw [aae] at h
        split at h
        · rw [aae] at h
          split at h
          · rename_i hk
            rw [aad] at hk
            have hk : k = 143 := hk
            subst hk
            cases h
            exact cx143_ok cx_ok
          · cases h
        · rw [aae] at h
          split at h
          · rename_i hk
            rw [aad] at hk
            have hk : k = 162 := hk
            subst hk
            cases h
            exact cx162_ok cx_ok
          · cases h
      · rw [aae] at h
        split at h
        · rw [aae] at h
          split at h
          · rename_i hk
            rw [aad] at hk
            have hk : k = 168 := hk
            subst hk
            cases h
            exact cx168_ok cx_ok
          · cases h
        · rw [aae] at h
          split at h
          · rename_i hk
            rw [aad] at hk
            have hk : k = 169 := hk
            subst hk
            cases h
            exact cx169_ok cx_ok
          · cases h
    · rw [aae] at h
      split at h
      · rw [aae] at h
        split at h
        · rw [aae] at h
          split at h
          · rename_i hk
            rw [aad] at hk
            have hk : k = 198 := hk
            subst hk
            cases h
            exact cx198_ok cx_ok
          · cases h
        · rw [aae] at h
          split at h
          · rename_i hk
            rw [aad] at hk
            have hk : k = 221 := hk
            subst hk
            cases h
            exact cx221_ok cx_ok
          · cases h
      · rw [aae] at h
        split at h
        · rw [aae] at h
          split at h
          · rename_i hk
            rw [aad] at hk
            have hk : k = 251 := hk
            subst hk
            cases h
            exact cx251_ok cx_ok
          · cases h
        · rw [aae] at h
          split at h
          · rename_i hk
            rw [aad] at hk
            have hk : k = 260 := hk
            subst hk
            cases h
            exact cx260_ok cx_ok
          · cases h
theorem cxx : Cok cx Gl ∧ Xok cx Gl := ⟨cx_ok, cx_x⟩
theorem closedM {C : Cx} (hC : Cok C Gl ∧ Xok C Gl) (hP : C.P = Tryz.prog) {n k : Nat} (h : isT ((lev C n).call k [] H0) = true) {w : World} (hG : Gl w) : Go.Wk.Enters Tryz.prog k ∧ CR Tryz.prog k [] w fun V w' => V = .bool true ∧ Hp w [] [] w' :=
  let ⟨H', h⟩ := isT_ok h
  hP ▸ run_says hC.1 hC.2 h rfl rfl hG (fun _ => (0, 0))
theorem closed {n k : Nat} (h : isT ((lev cx n).call k [] H0) = true) {w : World} (hG : Gl w) : Go.Wk.Enters Tryz.prog k ∧ CR Tryz.prog k [] w fun V w' => V = .bool true ∧ Hp w [] [] w' :=
  let ⟨H', h⟩ := isT_ok h
  run_says cx_ok cx_x h rfl rfl hG (fun _ => (0, 0))
end Go.Proofs
