/-
  The law RoutingKnown (part 4 of 8).
-/
import Derived.Test.YtifplmgmmkdomaaGreatDoorRk3
import Derived.Shelf.Strings.Builder1
import Derived.Shelf.Strings.Builder2
import Derived.Shelf.Strings.OnBuilder
import Derived.Shelf.Strings.Trim
import Derived.Shelf.Small.Utf8
import Derived.Shelf.Small.Strs
import Derived.Shelf.Small.Wraps
import Derived.Shelf.Strings.BuilderF
import Derived.Shelf.Strings.BuilderK
import Derived.Shelf.Utf8.RuneCount
import Derived.Shelf.Strings.Builder2Cap
import Derived.Shelf.Strconv.Itoa0
import Derived.Shelf.Strconv.Itoa1
import Derived.Shelf.LaysM
import Derived.Shelf.Strconv.Itoa2
import Derived.Shelf.Strconv.Itoa3
import Derived.Shelf.Strings.Search1
import Derived.Shelf.Strings.Search2
import Derived.Shelf.Strings.Search3
import Derived.Shelf.Strings.Cut
import Derived.Shelf.Strings.Count
import Derived.Shelf.Strings.Shaped
import Derived.Shelf.Strings.LastIndex
import Derived.Shelf.Strings.Prefix
import Derived.Shelf.Strings.Split
import Derived.Shelf.Strings.SplitShaped
import Derived.Shelf.Unicode.Decode
import Derived.Shelf.Strings.Runes
import Derived.Shelf.Strings.RuneCount
import Derived.Shelf.Strings.IndexAny
import Derived.Shelf.Strings.AsciiSet
import Derived.Shelf.Strings.IndexAnyAll
import Derived.Shelf.Strings.Explode
import Derived.Shelf.Unicode.DecodeSlow
import Derived.Shelf.Unicode.DecodeAny
import Derived.Shelf.Unicode.DecodeLast
import Derived.Shelf.Strings.BuilderCap
import Derived.Ground.PaProg
import Derived.Shelf.Path.Small
import Derived.Test.YtifplmgmmkdomaaGreatDoorProg
import Derived.Shelf.Strings.SlTrimAscii
set_option linter.constructorNameAsVariable false
namespace Go.Proofs
open Go.Shelf
def Tryz.lays156_ren : Go.Shelf.Ren := ⟨fun | 156 => 250 | 165 => 330 | 166 => 151 | 169 => 154 | 240 => 265 | 241 => 377 | 276 => 338 | 277 => 400 | n => n, fun | 31 => 36 | 9 => 9 | 3 => 3 | 4 => 4 | 0 => 0 | 20 => 20 | 72 => 188 | 76 => 122 | 70 => 186 | 37 => 23 | 75 => 121 | 127 => 273 | 164 => 326 | 5 => 5 | 80 => 169 | n => n, fun | n => n⟩
theorem Tryz.lays156 : Go.Proofs.Lays.n156 Tryz.prog Tryz.lays156_ren := {
  mixed := by kernel_rfl
  f156 := Tryz.func250.trans (congrArg some krf)
  f165 := Tryz.func330.trans (congrArg some krf)
  f166 := Tryz.func151.trans (congrArg some krf)
  f169 := Tryz.func154.trans (congrArg some krf)
  f240 := Tryz.func265.trans (congrArg some krf)
  f241 := Tryz.func377.trans (congrArg some krf)
  f276 := Tryz.func338.trans (congrArg some krf)
  f277 := Tryz.func400.trans (congrArg some krf)
  t0 := Tryz.underlying0
  a0 := Tryz.isAgg0
  z0 := Tryz.sizeOf0
  v0 := Tryz.zeroValue0
  t3 := Tryz.underlying3
  a3 := Tryz.isAgg3
  z3 := Tryz.sizeOf3
  v3 := Tryz.zeroValue3
  t4 := Tryz.underlying4
  a4 := Tryz.isAgg4
  z4 := Tryz.sizeOf4
  v4 := Tryz.zeroValue4
  t9 := Tryz.underlying9
  a9 := Tryz.isAgg9
  z9 := Tryz.sizeOf9
  v9 := Tryz.zeroValue9
  t20 := Tryz.underlying20
  a20 := Tryz.isAgg20
  z20 := Tryz.sizeOf20
  v20 := Tryz.zeroValue20
  t31 := Tryz.underlying36
  a31 := Tryz.isAgg36
  z31 := Tryz.sizeOf36
  v31 := Tryz.zeroValue36
  t37 := Tryz.underlying23
  a37 := Tryz.isAgg23
  z37 := Tryz.sizeOf23
  v37 := Tryz.zeroValue23
  t70 := Tryz.underlying186
  a70 := Tryz.isAgg186
  z70 := Tryz.sizeOf186
  v70 := Tryz.zeroValue186
  t72 := Tryz.underlying188
  a72 := Tryz.isAgg188
  z72 := Tryz.sizeOf188
  v72 := Tryz.zeroValue188
  t75 := Tryz.underlying121
  a75 := Tryz.isAgg121
  z75 := Tryz.sizeOf121
  v75 := Tryz.zeroValue121
  t76 := Tryz.underlying122
  a76 := Tryz.isAgg122
  z76 := Tryz.sizeOf122
  v76 := Tryz.zeroValue122
  t127 := Tryz.underlying273
  a127 := Tryz.isAgg273
  z127 := Tryz.sizeOf273
  v127 := Tryz.zeroValue273
  t164 := Tryz.underlying326
  a164 := Tryz.isAgg326
  z164 := Tryz.sizeOf326
  v164 := Tryz.zeroValue326 }
theorem Tryz.Builder_Extra_156 : Builder.Extra Tryz.prog Tryz.lays156_ren := {
  sizeBuilder := by kernel_rfl
  liesBuilder := by kernel_rfl
  t5 := Tryz.underlying5
  a5 := Tryz.isAgg5
  z5 := Tryz.sizeOf5
  v5 := Tryz.zeroValue5
  infoByte := by kernel_rfl
  cellsByte := by kernel_rfl
  sizeByte := by kernel_rfl
  neB5 := by decide }
open Go.RowKit in
theorem Tryz.strings_Join_none (a : Option Addr) (c : Nat) (sep : ByteArray) (w : World) :
    Calls Tryz.prog 250 #[.slice a 0 c, .string sep] w fun e w' => e = .returned (.string ⟨#[]⟩) ∧ w' = w := Any.strings_Join_none Tryz.lays156 Tryz.Builder_Extra_156 a c sep w
open Go.RowKit in
theorem Tryz.strings_Join (bk o c : Nat) (xs : List ByteArray) (sep : ByteArray) (w : World) (hcells : ∀ (j : Nat) x, xs[j]? = some x → w.cell? ⟨bk, o + j, none⟩ = some (.string x)) (hbk : bk < w.heap.size) (hN : xs.length ≤ 140737488355328) (hcap : xs.length ≤ c) (hlen : (Lib.join (xs.map (·.data.toList)) sep.data.toList).length ≤ 140737488355328) :
    Calls Tryz.prog 250 #[.slice (some ⟨bk, o, none⟩) xs.length c, .string sep] w fun e w' => e = .returned (.string ⟨(Lib.join (xs.map (·.data.toList)) sep.data.toList).toArray⟩) ∧ Below w.heap.size w w' := Any.strings_Join Tryz.lays156 Tryz.Builder_Extra_156 bk o c xs sep w hcells hbk hN hcap hlen
def Tryz.lays161_ren : Go.Shelf.Ren := ⟨fun | 161 => 329 | 231 => 224 | 227 => 226 | 233 => 227 | 235 => 229 | 228 => 240 | 197 => 315 | 151 => 316 | 260 => 371 | 152 => 238 | 137 => 67 | 119 => 320 | 224 => 321 | 225 => 322 | 217 => 131 | 266 => 232 | n => n, fun | 9 => 9 | 4 => 4 | 3 => 3 | 5 => 5 | 117 => 240 | 116 => 239 | 0 => 0 | 124 => 243 | 105 => 306 | 21 => 21 | 119 => 367 | 46 => 272 | 139 => 370 | 138 => 369 | n => n, fun | 3 => 7 | 4 => 8 | n => n⟩
theorem Tryz.lays161 : Go.Proofs.Lays.n161 Tryz.prog Tryz.lays161_ren := {
  mixed := by kernel_rfl
  f119 := Tryz.func320.trans (congrArg some krf)
  f137 := Tryz.func67.trans (congrArg some krf)
  f151 := Tryz.func316.trans (congrArg some krf)
  f152 := Tryz.func238.trans (congrArg some krf)
  f161 := Tryz.func329.trans (congrArg some krf)
  f197 := Tryz.func315.trans (congrArg some krf)
  f217 := Tryz.func131.trans (congrArg some krf)
  f224 := Tryz.func321.trans (congrArg some krf)
  f225 := Tryz.func322.trans (congrArg some krf)
  f227 := Tryz.func226.trans (congrArg some krf)
  f228 := Tryz.func240.trans (congrArg some krf)
  f231 := Tryz.func224.trans (congrArg some krf)
  f233 := Tryz.func227.trans (congrArg some krf)
  f235 := Tryz.func229.trans (congrArg some krf)
  f260 := Tryz.func371.trans (congrArg some krf)
  f266 := Tryz.func232.trans (congrArg some krf)
  t0 := Tryz.underlying0
  a0 := Tryz.isAgg0
  z0 := Tryz.sizeOf0
  v0 := Tryz.zeroValue0
  t3 := Tryz.underlying3
  a3 := Tryz.isAgg3
  z3 := Tryz.sizeOf3
  v3 := Tryz.zeroValue3
  t4 := Tryz.underlying4
  a4 := Tryz.isAgg4
  z4 := Tryz.sizeOf4
  v4 := Tryz.zeroValue4
  t5 := Tryz.underlying5
  a5 := Tryz.isAgg5
  z5 := Tryz.sizeOf5
  v5 := Tryz.zeroValue5
  t9 := Tryz.underlying9
  a9 := Tryz.isAgg9
  z9 := Tryz.sizeOf9
  v9 := Tryz.zeroValue9
  t21 := Tryz.underlying21
  a21 := Tryz.isAgg21
  z21 := Tryz.sizeOf21
  v21 := Tryz.zeroValue21
  t46 := Tryz.underlying272
  a46 := Tryz.isAgg272
  z46 := Tryz.sizeOf272
  v46 := Tryz.zeroValue272
  t105 := Tryz.underlying306
  a105 := Tryz.isAgg306
  z105 := Tryz.sizeOf306
  v105 := Tryz.zeroValue306
  t116 := Tryz.underlying239
  a116 := Tryz.isAgg239
  z116 := Tryz.sizeOf239
  t117 := Tryz.underlying240
  a117 := Tryz.isAgg240
  z117 := Tryz.sizeOf240
  v117 := Tryz.zeroValue240
  t119 := Tryz.underlying367
  a119 := Tryz.isAgg367
  z119 := Tryz.sizeOf367
  t124 := Tryz.underlying243
  a124 := Tryz.isAgg243
  z124 := Tryz.sizeOf243
  v124 := Tryz.zeroValue243
  t138 := Tryz.underlying369
  a138 := Tryz.isAgg369
  z138 := Tryz.sizeOf369
  v138 := Tryz.zeroValue369
  t139 := Tryz.underlying370
  a139 := Tryz.isAgg370
  z139 := Tryz.sizeOf370
  v139 := Tryz.zeroValue370
  g3 := by kernel_rfl
  g4 := by kernel_rfl }
def Tryz.lays162_ren : Go.Shelf.Ren := ⟨fun | 162 => 382 | 232 => 225 | 227 => 226 | 234 => 228 | 236 => 230 | 228 => 240 | 271 => 317 | 151 => 316 | 120 => 372 | 197 => 315 | 152 => 238 | 260 => 371 | 137 => 67 | 119 => 320 | 224 => 321 | 225 => 322 | 217 => 131 | 266 => 232 | n => n, fun | 9 => 9 | 4 => 4 | 3 => 3 | 5 => 5 | 117 => 240 | 116 => 239 | 0 => 0 | 124 => 243 | 21 => 21 | 105 => 306 | 46 => 272 | 119 => 367 | 139 => 370 | 138 => 369 | n => n, fun | 3 => 7 | 4 => 8 | n => n⟩
theorem Tryz.lays162 : Go.Proofs.Lays.n162 Tryz.prog Tryz.lays162_ren := {
  mixed := by kernel_rfl
  f119 := Tryz.func320.trans (congrArg some krf)
  f120 := Tryz.func372.trans (congrArg some krf)
  f137 := Tryz.func67.trans (congrArg some krf)
  f151 := Tryz.func316.trans (congrArg some krf)
  f152 := Tryz.func238.trans (congrArg some krf)
  f162 := Tryz.func382.trans (congrArg some krf)
  f197 := Tryz.func315.trans (congrArg some krf)
  f217 := Tryz.func131.trans (congrArg some krf)
  f224 := Tryz.func321.trans (congrArg some krf)
  f225 := Tryz.func322.trans (congrArg some krf)
  f227 := Tryz.func226.trans (congrArg some krf)
  f228 := Tryz.func240.trans (congrArg some krf)
  f232 := Tryz.func225.trans (congrArg some krf)
  f234 := Tryz.func228.trans (congrArg some krf)
  f236 := Tryz.func230.trans (congrArg some krf)
  f260 := Tryz.func371.trans (congrArg some krf)
  f266 := Tryz.func232.trans (congrArg some krf)
  f271 := Tryz.func317.trans (congrArg some krf)
  t0 := Tryz.underlying0
  a0 := Tryz.isAgg0
  z0 := Tryz.sizeOf0
  v0 := Tryz.zeroValue0
  t3 := Tryz.underlying3
  a3 := Tryz.isAgg3
  z3 := Tryz.sizeOf3
  v3 := Tryz.zeroValue3
  t4 := Tryz.underlying4
  a4 := Tryz.isAgg4
  z4 := Tryz.sizeOf4
  v4 := Tryz.zeroValue4
  t5 := Tryz.underlying5
  a5 := Tryz.isAgg5
  z5 := Tryz.sizeOf5
  v5 := Tryz.zeroValue5
  t9 := Tryz.underlying9
  a9 := Tryz.isAgg9
  z9 := Tryz.sizeOf9
  v9 := Tryz.zeroValue9
  t21 := Tryz.underlying21
  a21 := Tryz.isAgg21
  z21 := Tryz.sizeOf21
  v21 := Tryz.zeroValue21
  t46 := Tryz.underlying272
  a46 := Tryz.isAgg272
  z46 := Tryz.sizeOf272
  v46 := Tryz.zeroValue272
  t105 := Tryz.underlying306
  a105 := Tryz.isAgg306
  z105 := Tryz.sizeOf306
  v105 := Tryz.zeroValue306
  t116 := Tryz.underlying239
  a116 := Tryz.isAgg239
  z116 := Tryz.sizeOf239
  t117 := Tryz.underlying240
  a117 := Tryz.isAgg240
  z117 := Tryz.sizeOf240
  v117 := Tryz.zeroValue240
  t119 := Tryz.underlying367
  a119 := Tryz.isAgg367
  z119 := Tryz.sizeOf367
  t124 := Tryz.underlying243
  a124 := Tryz.isAgg243
  z124 := Tryz.sizeOf243
  v124 := Tryz.zeroValue243
  t138 := Tryz.underlying369
  a138 := Tryz.isAgg369
  z138 := Tryz.sizeOf369
  v138 := Tryz.zeroValue369
  t139 := Tryz.underlying370
  a139 := Tryz.isAgg370
  z139 := Tryz.sizeOf370
  v139 := Tryz.zeroValue370
  g3 := by kernel_rfl
  g4 := by kernel_rfl }
def Tryz.lays160_ren : Go.Shelf.Ren := ⟨fun | 160 => 125 | 232 => 225 | 231 => 224 | 227 => 226 | 234 => 228 | 233 => 227 | 236 => 230 | 235 => 229 | 228 => 240 | 271 => 317 | 151 => 316 | 197 => 315 | 120 => 372 | 152 => 238 | 260 => 371 | 137 => 67 | 119 => 320 | 224 => 321 | 225 => 322 | 217 => 131 | 266 => 232 | n => n, fun | 9 => 9 | 4 => 4 | 3 => 3 | 5 => 5 | 117 => 240 | 116 => 239 | 0 => 0 | 124 => 243 | 21 => 21 | 105 => 306 | 46 => 272 | 119 => 367 | 139 => 370 | 138 => 369 | n => n, fun | 3 => 7 | 4 => 8 | n => n⟩
theorem Tryz.lays160 : Go.Proofs.Lays.n160 Tryz.prog Tryz.lays160_ren := {
  mixed := by kernel_rfl
  f119 := Tryz.func320.trans (congrArg some krf)
  f120 := Tryz.func372.trans (congrArg some krf)
  f137 := Tryz.func67.trans (congrArg some krf)
  f151 := Tryz.func316.trans (congrArg some krf)
  f152 := Tryz.func238.trans (congrArg some krf)
  f160 := Tryz.func125.trans (congrArg some krf)
  f197 := Tryz.func315.trans (congrArg some krf)
  f217 := Tryz.func131.trans (congrArg some krf)
  f224 := Tryz.func321.trans (congrArg some krf)
  f225 := Tryz.func322.trans (congrArg some krf)
  f227 := Tryz.func226.trans (congrArg some krf)
  f228 := Tryz.func240.trans (congrArg some krf)
  f231 := Tryz.func224.trans (congrArg some krf)
  f232 := Tryz.func225.trans (congrArg some krf)
  f233 := Tryz.func227.trans (congrArg some krf)
  f234 := Tryz.func228.trans (congrArg some krf)
  f235 := Tryz.func229.trans (congrArg some krf)
  f236 := Tryz.func230.trans (congrArg some krf)
  f260 := Tryz.func371.trans (congrArg some krf)
  f266 := Tryz.func232.trans (congrArg some krf)
  f271 := Tryz.func317.trans (congrArg some krf)
  t0 := Tryz.underlying0
  a0 := Tryz.isAgg0
  z0 := Tryz.sizeOf0
  v0 := Tryz.zeroValue0
  t3 := Tryz.underlying3
  a3 := Tryz.isAgg3
  z3 := Tryz.sizeOf3
  v3 := Tryz.zeroValue3
  t4 := Tryz.underlying4
  a4 := Tryz.isAgg4
  z4 := Tryz.sizeOf4
  v4 := Tryz.zeroValue4
  t5 := Tryz.underlying5
  a5 := Tryz.isAgg5
  z5 := Tryz.sizeOf5
  v5 := Tryz.zeroValue5
  t9 := Tryz.underlying9
  a9 := Tryz.isAgg9
  z9 := Tryz.sizeOf9
  v9 := Tryz.zeroValue9
  t21 := Tryz.underlying21
  a21 := Tryz.isAgg21
  z21 := Tryz.sizeOf21
  v21 := Tryz.zeroValue21
  t46 := Tryz.underlying272
  a46 := Tryz.isAgg272
  z46 := Tryz.sizeOf272
  v46 := Tryz.zeroValue272
  t105 := Tryz.underlying306
  a105 := Tryz.isAgg306
  z105 := Tryz.sizeOf306
  v105 := Tryz.zeroValue306
  t116 := Tryz.underlying239
  a116 := Tryz.isAgg239
  z116 := Tryz.sizeOf239
  t117 := Tryz.underlying240
  a117 := Tryz.isAgg240
  z117 := Tryz.sizeOf240
  v117 := Tryz.zeroValue240
  t119 := Tryz.underlying367
  a119 := Tryz.isAgg367
  z119 := Tryz.sizeOf367
  t124 := Tryz.underlying243
  a124 := Tryz.isAgg243
  z124 := Tryz.sizeOf243
  v124 := Tryz.zeroValue243
  t138 := Tryz.underlying369
  a138 := Tryz.isAgg369
  z138 := Tryz.sizeOf369
  v138 := Tryz.zeroValue369
  t139 := Tryz.underlying370
  a139 := Tryz.isAgg370
  z139 := Tryz.sizeOf370
  v139 := Tryz.zeroValue370
  g3 := by kernel_rfl
  g4 := by kernel_rfl }
def Tryz.lays137_ren : Go.Shelf.Ren := ⟨fun | 137 => 67 | 217 => 131 | 266 => 232 | n => n, fun | 9 => 9 | 5 => 5 | 3 => 3 | n => n, fun | n => n⟩
theorem Tryz.lays137 : Go.Proofs.Lays.n137 Tryz.prog Tryz.lays137_ren := {
  mixed := by kernel_rfl
  f137 := Tryz.func67.trans (congrArg some krf)
  f217 := Tryz.func131.trans (congrArg some krf)
  f266 := Tryz.func232.trans (congrArg some krf)
  t3 := Tryz.underlying3
  a3 := Tryz.isAgg3
  z3 := Tryz.sizeOf3
  v3 := Tryz.zeroValue3
  t5 := Tryz.underlying5
  a5 := Tryz.isAgg5
  z5 := Tryz.sizeOf5
  v5 := Tryz.zeroValue5
  t9 := Tryz.underlying9
  a9 := Tryz.isAgg9
  z9 := Tryz.sizeOf9
  v9 := Tryz.zeroValue9 }
open Go.RowKit in
theorem Tryz.strings_IndexByte (s : ByteArray) (c : Int) (w : World) :
    Calls Tryz.prog 67 #[.string s, .int .u8 c] w fun e w' => e = .returned (.int .i64 (Lib.indexByte s.data.toList c.toNat.toUInt8)) ∧ w' = w := Any.strings_IndexByte Tryz.lays137 s c w
def Tryz.lays103_ren : Go.Shelf.Ren := ⟨fun | 103 => 337 | 210 => 383 | 206 => 319 | n => n, fun | 9 => 9 | 4 => 4 | 24 => 31 | 3 => 3 | n => n, fun | n => n⟩
theorem Tryz.lays103 : Go.Proofs.Lays.n103 Tryz.prog Tryz.lays103_ren := {
  mixed := by kernel_rfl
  f103 := Tryz.func337.trans (congrArg some krf)
  f206 := Tryz.func319.trans (congrArg some krf)
  f210 := Tryz.func383.trans (congrArg some krf)
  t3 := Tryz.underlying3
  a3 := Tryz.isAgg3
  z3 := Tryz.sizeOf3
  v3 := Tryz.zeroValue3
  t4 := Tryz.underlying4
  a4 := Tryz.isAgg4
  z4 := Tryz.sizeOf4
  v4 := Tryz.zeroValue4
  t9 := Tryz.underlying9
  a9 := Tryz.isAgg9
  z9 := Tryz.sizeOf9
  v9 := Tryz.zeroValue9
  t24 := Tryz.underlying31
  a24 := Tryz.isAgg31
  z24 := Tryz.sizeOf31
  v24 := Tryz.zeroValue31 }
open Go.RowKit in
theorem Tryz.strings_CutPrefix (s p : ByteArray) (w : World) :
    Calls Tryz.prog 337 #[.string s, .string p] w fun e w' => e = .returned (.tuple #[.string ⟨(Lib.trimPrefix s.data.toList p.data.toList).toArray⟩, .bool (Lib.hasPrefix s.data.toList p.data.toList)]) ∧ w' = w := Any.strings_CutPrefix Tryz.lays103 s p w
def Tryz.laysM171_ren : Go.Shelf.Ren := ⟨fun | 171 => 46 | 243 => 97 | 246 => 174 | 283 => 281 | 284 => 282 | 285 => 283 | 286 => 284 | 129 => 348 | 317 => 347 | 318 => 349 | 319 => 350 | 320 => 351 | 337 => 385 | 338 => 386 | n => n, fun | 3 => 3 | 9 => 9 | 2 => 2 | 4 => 4 | 171 => 287 | 0 => 0 | 53 => 288 | 37 => 23 | 5 => 5 | 173 => 291 | 212 => 342 | 51 => 332 | 20 => 20 | 213 => 343 | 46 => 272 | 232 => 276 | 233 => 334 | n => n, fun | 17 => 6 | 18 => 10 | 19 => 11 | n => n⟩
theorem Tryz.laysM171 : Go.Proofs.LaysM.n171 Tryz.prog Tryz.laysM171_ren := {
  mixed := by kernel_rfl
  f129 := Tryz.func348.trans (congrArg some krf)
  f171 := Tryz.func46.trans (congrArg some krf)
  f243 := Tryz.func97.trans (congrArg some krf)
  f246 := Tryz.func174.trans (congrArg some krf)
  f283 := Tryz.func281.trans (congrArg some krf)
  f284 := Tryz.func282.trans (congrArg some krf)
  f285 := Tryz.func283.trans (congrArg some krf)
  f286 := Tryz.func284.trans (congrArg some krf)
  f317 := Tryz.func347.trans (congrArg some krf)
  f318 := Tryz.func349.trans (congrArg some krf)
  f319 := Tryz.func350.trans (congrArg some krf)
  f320 := Tryz.func351.trans (congrArg some krf)
  f337 := Tryz.func385.trans (congrArg some krf)
  f338 := Tryz.func386.trans (congrArg some krf)
  t0 := Tryz.underlying0
  a0 := Tryz.isAgg0
  z0 := Tryz.sizeOf0
  v0 := Tryz.zeroValue0
  t2 := Tryz.underlying2
  a2 := Tryz.isAgg2
  z2 := Tryz.sizeOf2
  v2 := Tryz.zeroValue2
  t3 := Tryz.underlying3
  a3 := Tryz.isAgg3
  z3 := Tryz.sizeOf3
  v3 := Tryz.zeroValue3
  t4 := Tryz.underlying4
  a4 := Tryz.isAgg4
  z4 := Tryz.sizeOf4
  v4 := Tryz.zeroValue4
  t5 := Tryz.underlying5
  a5 := Tryz.isAgg5
  z5 := Tryz.sizeOf5
  v5 := Tryz.zeroValue5
  t9 := Tryz.underlying9
  a9 := Tryz.isAgg9
  z9 := Tryz.sizeOf9
  v9 := Tryz.zeroValue9
  t20 := Tryz.underlying20
  a20 := Tryz.isAgg20
  z20 := Tryz.sizeOf20
  v20 := Tryz.zeroValue20
  t37 := Tryz.underlying23
  a37 := Tryz.isAgg23
  z37 := Tryz.sizeOf23
  v37 := Tryz.zeroValue23
  t46 := Tryz.underlying272
  a46 := Tryz.isAgg272
  z46 := Tryz.sizeOf272
  v46 := Tryz.zeroValue272
  t51 := Tryz.underlying332
  a51 := Tryz.isAgg332
  z51 := Tryz.sizeOf332
  v51 := Tryz.zeroValue332
  t53 := Tryz.underlying288
  a53 := Tryz.isAgg288
  z53 := Tryz.sizeOf288
  v53 := Tryz.zeroValue288
  t171 := Tryz.underlying287
  a171 := Tryz.isAgg287
  z171 := Tryz.sizeOf287
  v171 := Tryz.zeroValue287
  t173 := Tryz.underlying291
  a173 := Tryz.isAgg291
  z173 := Tryz.sizeOf291
  v173 := Tryz.zeroValue291
  t212 := Tryz.underlying342
  a212 := Tryz.isAgg342
  z212 := Tryz.sizeOf342
  v212 := Tryz.zeroValue342
  t213 := Tryz.underlying343
  a213 := Tryz.isAgg343
  z213 := Tryz.sizeOf343
  t232 := Tryz.underlying276
  a232 := Tryz.isAgg276
  z232 := Tryz.sizeOf276
  v232 := Tryz.zeroValue276
  t233 := Tryz.underlying334
  a233 := Tryz.isAgg334
  z233 := Tryz.sizeOf334
  v233 := Tryz.zeroValue334
  g17 := by kernel_rfl
  g18 := by kernel_rfl
  g19 := by kernel_rfl
  i0 := by kernel_rfl
  i2 := by kernel_rfl
  i3 := by kernel_rfl
  i4 := by kernel_rfl
  i5 := by kernel_rfl
  i9 := by kernel_rfl
  i20 := by kernel_rfl
  i37 := by kernel_rfl
  i46 := by kernel_rfl
  i51 := by kernel_rfl
  i53 := by kernel_rfl
  i171 := by kernel_rfl
  i173 := by kernel_rfl
  i212 := by kernel_rfl
  i232 := by kernel_rfl
  i233 := by kernel_rfl
  m17 := by kernel_rfl
  m18 := by kernel_rfl
  m19 := by kernel_rfl }
open Go.RowKit Go.Sort Go.Lib in
theorem Tryz.strconv_Itoa (n : Int) (h0 : -9223372036854775808 ≤ n) (h1 : n ≤ 9223372036854775807) (w : World) (htab : Lib.TabIs Tryz.prog w "internal/strconv.uint64pow10" .u64 Lib.pow10Tab) :
    Calls Tryz.prog 46 #[.int .i64 n] w fun e w' => e = .returned (.string ⟨(Lib.itoa n).toArray⟩) ∧ ∃ k os, w' = grow (w.drewN k) os := Any.strconv_Itoa Tryz.laysM171 n h0 h1 w htab
def Tryz.lays143_ren : Go.Shelf.Ren := ⟨fun | 143 => 335 | 219 => 376 | 217 => 131 | 225 => 322 | 224 => 321 | 267 => 399 | 266 => 232 | 314 => 412 | n => n, fun | 9 => 9 | 3 => 3 | 4 => 4 | 5 => 5 | 46 => 272 | 146 => 374 | 51 => 332 | n => n, fun | 1 => 1 | n => n⟩
theorem Tryz.lays143 : Go.Proofs.Lays.n143 Tryz.prog Tryz.lays143_ren := {
  mixed := by kernel_rfl
  f143 := Tryz.func335.trans (congrArg some krf)
  f217 := Tryz.func131.trans (congrArg some krf)
  f219 := Tryz.func376.trans (congrArg some krf)
  f224 := Tryz.func321.trans (congrArg some krf)
  f225 := Tryz.func322.trans (congrArg some krf)
  f266 := Tryz.func232.trans (congrArg some krf)
  f267 := Tryz.func399.trans (congrArg some krf)
  f314 := Tryz.func412.trans (congrArg some krf)
  t3 := Tryz.underlying3
  a3 := Tryz.isAgg3
  z3 := Tryz.sizeOf3
  v3 := Tryz.zeroValue3
  t4 := Tryz.underlying4
  a4 := Tryz.isAgg4
  z4 := Tryz.sizeOf4
  v4 := Tryz.zeroValue4
  t5 := Tryz.underlying5
  a5 := Tryz.isAgg5
  z5 := Tryz.sizeOf5
  v5 := Tryz.zeroValue5
  t9 := Tryz.underlying9
  a9 := Tryz.isAgg9
  z9 := Tryz.sizeOf9
  v9 := Tryz.zeroValue9
  t46 := Tryz.underlying272
  a46 := Tryz.isAgg272
  z46 := Tryz.sizeOf272
  v46 := Tryz.zeroValue272
  t51 := Tryz.underlying332
  a51 := Tryz.isAgg332
  z51 := Tryz.sizeOf332
  v51 := Tryz.zeroValue332
  t146 := Tryz.underlying374
  a146 := Tryz.isAgg374
  z146 := Tryz.sizeOf374
  v146 := Tryz.zeroValue374
  g1 := by kernel_rfl }
open Go.RowKit Go.Lib in
theorem Tryz.strings_Index (s sub : ByteArray) (m : Int) (w : World) (hs : s.size < 4294967281) (hm : w.cell? ⟨1, 0, none⟩ = some (.int .i64 m)) :
    Calls Tryz.prog 335 #[.string s, .string sub] w fun e w' => e = .returned (.int .i64 (Lib.index s.data.toList sub.data.toList)) ∧ w' = w := Any.strings_Index Tryz.lays143 s sub m w hs hm
def Tryz.lays144_ren : Go.Shelf.Ren := ⟨fun | 144 => 259 | 143 => 335 | 219 => 376 | 217 => 131 | 225 => 322 | 224 => 321 | 267 => 399 | 266 => 232 | 314 => 412 | n => n, fun | 9 => 9 | 4 => 4 | 3 => 3 | 5 => 5 | 46 => 272 | 146 => 374 | 51 => 332 | n => n, fun | 1 => 1 | n => n⟩
theorem Tryz.lays144 : Go.Proofs.Lays.n144 Tryz.prog Tryz.lays144_ren := {
  mixed := by kernel_rfl
  f143 := Tryz.func335.trans (congrArg some krf)
  f144 := Tryz.func259.trans (congrArg some krf)
  f217 := Tryz.func131.trans (congrArg some krf)
  f219 := Tryz.func376.trans (congrArg some krf)
  f224 := Tryz.func321.trans (congrArg some krf)
  f225 := Tryz.func322.trans (congrArg some krf)
  f266 := Tryz.func232.trans (congrArg some krf)
  f267 := Tryz.func399.trans (congrArg some krf)
  f314 := Tryz.func412.trans (congrArg some krf)
  t3 := Tryz.underlying3
  a3 := Tryz.isAgg3
  z3 := Tryz.sizeOf3
  v3 := Tryz.zeroValue3
  t4 := Tryz.underlying4
  a4 := Tryz.isAgg4
  z4 := Tryz.sizeOf4
  v4 := Tryz.zeroValue4
  t5 := Tryz.underlying5
  a5 := Tryz.isAgg5
  z5 := Tryz.sizeOf5
  v5 := Tryz.zeroValue5
  t9 := Tryz.underlying9
  a9 := Tryz.isAgg9
  z9 := Tryz.sizeOf9
  v9 := Tryz.zeroValue9
  t46 := Tryz.underlying272
  a46 := Tryz.isAgg272
  z46 := Tryz.sizeOf272
  v46 := Tryz.zeroValue272
  t51 := Tryz.underlying332
  a51 := Tryz.isAgg332
  z51 := Tryz.sizeOf332
  v51 := Tryz.zeroValue332
  t146 := Tryz.underlying374
  a146 := Tryz.isAgg374
  z146 := Tryz.sizeOf374
  v146 := Tryz.zeroValue374
  g1 := by kernel_rfl }
open Go.RowKit Go.Lib in
theorem Tryz.strings_Contains (s sub : ByteArray) (m : Int) (w : World) (hs : s.size < 4294967281) (hm : w.cell? ⟨1, 0, none⟩ = some (.int .i64 m)) :
    Calls Tryz.prog 259 #[.string s, .string sub] w fun e w' => e = .returned (.bool (Lib.contains s.data.toList sub.data.toList)) ∧ w' = w := Any.strings_Contains Tryz.lays144 s sub m w hs hm
def Tryz.lays145_ren : Go.Shelf.Ren := ⟨fun | 145 => 248 | 220 => 328 | 219 => 376 | 217 => 131 | 225 => 322 | 224 => 321 | 267 => 399 | 266 => 232 | 314 => 412 | n => n, fun | 9 => 9 | 4 => 4 | 59 => 198 | 3 => 3 | 5 => 5 | 46 => 272 | 146 => 374 | 51 => 332 | n => n, fun | 1 => 1 | n => n⟩
theorem Tryz.lays145 : Go.Proofs.Lays.n145 Tryz.prog Tryz.lays145_ren := {
  mixed := by kernel_rfl
  f145 := Tryz.func248.trans (congrArg some krf)
  f217 := Tryz.func131.trans (congrArg some krf)
  f219 := Tryz.func376.trans (congrArg some krf)
  f220 := Tryz.func328.trans (congrArg some krf)
  f224 := Tryz.func321.trans (congrArg some krf)
  f225 := Tryz.func322.trans (congrArg some krf)
  f266 := Tryz.func232.trans (congrArg some krf)
  f267 := Tryz.func399.trans (congrArg some krf)
  f314 := Tryz.func412.trans (congrArg some krf)
  t3 := Tryz.underlying3
  a3 := Tryz.isAgg3
  z3 := Tryz.sizeOf3
  v3 := Tryz.zeroValue3
  t4 := Tryz.underlying4
  a4 := Tryz.isAgg4
  z4 := Tryz.sizeOf4
  v4 := Tryz.zeroValue4
  t5 := Tryz.underlying5
  a5 := Tryz.isAgg5
  z5 := Tryz.sizeOf5
  v5 := Tryz.zeroValue5
  t9 := Tryz.underlying9
  a9 := Tryz.isAgg9
  z9 := Tryz.sizeOf9
  v9 := Tryz.zeroValue9
  t46 := Tryz.underlying272
  a46 := Tryz.isAgg272
  z46 := Tryz.sizeOf272
  v46 := Tryz.zeroValue272
  t51 := Tryz.underlying332
  a51 := Tryz.isAgg332
  z51 := Tryz.sizeOf332
  v51 := Tryz.zeroValue332
  t59 := Tryz.underlying198
  a59 := Tryz.isAgg198
  z59 := Tryz.sizeOf198
  v59 := Tryz.zeroValue198
  t146 := Tryz.underlying374
  a146 := Tryz.isAgg374
  z146 := Tryz.sizeOf374
  v146 := Tryz.zeroValue374
  g1 := by kernel_rfl }
open Go.RowKit Go.Lib in
theorem Tryz.strings_Cut (s sep : ByteArray) (m : Int) (w : World) (hs : s.size < 4294967281) (hm : w.cell? ⟨1, 0, none⟩ = some (.int .i64 m)) :
    Calls Tryz.prog 248 #[.string s, .string sep] w fun e w' => e = .returned (.tuple #[.string ⟨(Lib.cut s.data.toList sep.data.toList).1.toArray⟩, .string ⟨(Lib.cut s.data.toList sep.data.toList).2.1.toArray⟩, .bool (Lib.cut s.data.toList sep.data.toList).2.2]) ∧ ∃ n, w' = w.drewN n := Any.strings_Cut Tryz.lays145 s sep m w hs hm
def Tryz.lays149_ren : Go.Shelf.Ren := ⟨fun | 149 => 77 | 222 => 141 | n => n, fun | 9 => 9 | 5 => 5 | 3 => 3 | 4 => 4 | n => n, fun | n => n⟩
theorem Tryz.lays149 : Go.Proofs.Lays.n149 Tryz.prog Tryz.lays149_ren := {
  mixed := by kernel_rfl
  f149 := Tryz.func77.trans (congrArg some krf)
  f222 := Tryz.func141.trans (congrArg some krf)
  t3 := Tryz.underlying3
  a3 := Tryz.isAgg3
  z3 := Tryz.sizeOf3
  v3 := Tryz.zeroValue3
  t4 := Tryz.underlying4
  a4 := Tryz.isAgg4
  z4 := Tryz.sizeOf4
  v4 := Tryz.zeroValue4
  t5 := Tryz.underlying5
  a5 := Tryz.isAgg5
  z5 := Tryz.sizeOf5
  v5 := Tryz.zeroValue5
  t9 := Tryz.underlying9
  a9 := Tryz.isAgg9
  z9 := Tryz.sizeOf9
  v9 := Tryz.zeroValue9 }
open Go.RowKit Go.Lib in
theorem Tryz.strings_LastIndexByte (s : ByteArray) (c : Int) (hs : s.size < 4611686018427387904) (w : World) :
    Calls Tryz.prog 77 #[.string s, .int .u8 c] w fun e w' => e = .returned (.int .i64 (Lib.lastIndexByte s c)) ∧ w' = w := Any.strings_LastIndexByte Tryz.lays149 s c hs w
def Tryz.lays101_ren : Go.Shelf.Ren := ⟨fun | 101 => 134 | 208 => 237 | 206 => 319 | n => n, fun | 9 => 9 | 4 => 4 | 3 => 3 | n => n, fun | n => n⟩
theorem Tryz.lays101 : Go.Proofs.Lays.n101 Tryz.prog Tryz.lays101_ren := {
  mixed := by kernel_rfl
  f101 := Tryz.func134.trans (congrArg some krf)
  f206 := Tryz.func319.trans (congrArg some krf)
  f208 := Tryz.func237.trans (congrArg some krf)
  t3 := Tryz.underlying3
  a3 := Tryz.isAgg3
  z3 := Tryz.sizeOf3
  v3 := Tryz.zeroValue3
  t4 := Tryz.underlying4
  a4 := Tryz.isAgg4
  z4 := Tryz.sizeOf4
  v4 := Tryz.zeroValue4
  t9 := Tryz.underlying9
  a9 := Tryz.isAgg9
  z9 := Tryz.sizeOf9
  v9 := Tryz.zeroValue9 }
open Go.RowKit Go.Lib in
theorem Tryz.strings_TrimPrefix (s p : ByteArray) (w : World) :
    Calls Tryz.prog 134 #[.string s, .string p] w fun e w' => e = .returned (.string ⟨(Lib.trimPrefix s.data.toList p.data.toList).toArray⟩) ∧ w' = w := Any.strings_TrimPrefix Tryz.lays101 s p w
def Tryz.lays146_ren : Go.Shelf.Ren := ⟨fun | 146 => 251 | 221 => 331 | 268 => 378 | 138 => 379 | 143 => 335 | 195 => 401 | 197 => 315 | 218 => 402 | 219 => 376 | 260 => 371 | 217 => 131 | 225 => 322 | 224 => 321 | 267 => 399 | 266 => 232 | 314 => 412 | n => n, fun | 9 => 9 | 31 => 36 | 3 => 3 | 4 => 4 | 0 => 0 | 105 => 306 | 21 => 21 | 5 => 5 | 46 => 272 | 119 => 367 | 139 => 370 | 138 => 369 | 146 => 374 | 51 => 332 | n => n, fun | 1 => 1 | 3 => 7 | 4 => 8 | n => n⟩
theorem Tryz.lays146 : Go.Proofs.Lays.n146 Tryz.prog Tryz.lays146_ren := {
  mixed := by kernel_rfl
  f138 := Tryz.func379.trans (congrArg some krf)
  f143 := Tryz.func335.trans (congrArg some krf)
  f146 := Tryz.func251.trans (congrArg some krf)
  f195 := Tryz.func401.trans (congrArg some krf)
  f197 := Tryz.func315.trans (congrArg some krf)
  f217 := Tryz.func131.trans (congrArg some krf)
  f218 := Tryz.func402.trans (congrArg some krf)
  f219 := Tryz.func376.trans (congrArg some krf)
  f221 := Tryz.func331.trans (congrArg some krf)
  f224 := Tryz.func321.trans (congrArg some krf)
  f225 := Tryz.func322.trans (congrArg some krf)
  f260 := Tryz.func371.trans (congrArg some krf)
  f266 := Tryz.func232.trans (congrArg some krf)
  f267 := Tryz.func399.trans (congrArg some krf)
  f268 := Tryz.func378.trans (congrArg some krf)
  f314 := Tryz.func412.trans (congrArg some krf)
  t0 := Tryz.underlying0
  a0 := Tryz.isAgg0
  z0 := Tryz.sizeOf0
  v0 := Tryz.zeroValue0
  t3 := Tryz.underlying3
  a3 := Tryz.isAgg3
  z3 := Tryz.sizeOf3
  v3 := Tryz.zeroValue3
  t4 := Tryz.underlying4
  a4 := Tryz.isAgg4
  z4 := Tryz.sizeOf4
  v4 := Tryz.zeroValue4
  t5 := Tryz.underlying5
  a5 := Tryz.isAgg5
  z5 := Tryz.sizeOf5
  v5 := Tryz.zeroValue5
  t9 := Tryz.underlying9
  a9 := Tryz.isAgg9
  z9 := Tryz.sizeOf9
  v9 := Tryz.zeroValue9
  t21 := Tryz.underlying21
  a21 := Tryz.isAgg21
  z21 := Tryz.sizeOf21
  v21 := Tryz.zeroValue21
  t31 := Tryz.underlying36
  a31 := Tryz.isAgg36
  z31 := Tryz.sizeOf36
  v31 := Tryz.zeroValue36
  t46 := Tryz.underlying272
  a46 := Tryz.isAgg272
  z46 := Tryz.sizeOf272
  v46 := Tryz.zeroValue272
  t51 := Tryz.underlying332
  a51 := Tryz.isAgg332
  z51 := Tryz.sizeOf332
  v51 := Tryz.zeroValue332
  t105 := Tryz.underlying306
  a105 := Tryz.isAgg306
  z105 := Tryz.sizeOf306
  v105 := Tryz.zeroValue306
  t119 := Tryz.underlying367
  a119 := Tryz.isAgg367
  z119 := Tryz.sizeOf367
  t138 := Tryz.underlying369
  a138 := Tryz.isAgg369
  z138 := Tryz.sizeOf369
  v138 := Tryz.zeroValue369
  t139 := Tryz.underlying370
  a139 := Tryz.isAgg370
  z139 := Tryz.sizeOf370
  v139 := Tryz.zeroValue370
  t146 := Tryz.underlying374
  a146 := Tryz.isAgg374
  z146 := Tryz.sizeOf374
  v146 := Tryz.zeroValue374
  g1 := by kernel_rfl
  g3 := by kernel_rfl
  g4 := by kernel_rfl }
open Go.RowKit Go.Lib in
theorem Tryz.strings_Split (s sep : ByteArray) (m : Int) (w : World) (hs : s.size < 4294967281) (hm : w.cell? ⟨1, 0, none⟩ = some (.int .i64 m)) (h1 : 1 ≤ sep.size) :
    Calls Tryz.prog 251 #[.string s, .string sep] w fun e w' =>
      e = .returned (.slice (some ⟨w.heap.size, 0, none⟩) (Lib.countB s sep + 1) (Lib.countB s sep + 1)) ∧ w' = w.alloc (.cells ((Lib.splitB sep 0 (Lib.countB s sep) s).map Value.string).toArray 9) := Any.strings_Split Tryz.lays146 krf s sep m w hs hm h1
def Tryz.lays153_ren : Go.Shelf.Ren := ⟨fun | 153 => 136 | 152 => 238 | 226 => 239 | 227 => 226 | 228 => 240 | 137 => 67 | 119 => 320 | 224 => 321 | 225 => 322 | 217 => 131 | 266 => 232 | n => n, fun | 9 => 9 | 3 => 3 | 4 => 4 | 5 => 5 | 21 => 21 | 117 => 240 | 116 => 239 | 0 => 0 | 46 => 272 | 124 => 243 | n => n, fun | n => n⟩
theorem Tryz.lays153 : Go.Proofs.Lays.n153 Tryz.prog Tryz.lays153_ren := {
  mixed := by kernel_rfl
  f119 := Tryz.func320.trans (congrArg some krf)
  f137 := Tryz.func67.trans (congrArg some krf)
  f152 := Tryz.func238.trans (congrArg some krf)
  f153 := Tryz.func136.trans (congrArg some krf)
  f217 := Tryz.func131.trans (congrArg some krf)
  f224 := Tryz.func321.trans (congrArg some krf)
  f225 := Tryz.func322.trans (congrArg some krf)
  f226 := Tryz.func239.trans (congrArg some krf)
  f227 := Tryz.func226.trans (congrArg some krf)
  f228 := Tryz.func240.trans (congrArg some krf)
  f266 := Tryz.func232.trans (congrArg some krf)
  t0 := Tryz.underlying0
  a0 := Tryz.isAgg0
  z0 := Tryz.sizeOf0
  v0 := Tryz.zeroValue0
  t3 := Tryz.underlying3
  a3 := Tryz.isAgg3
  z3 := Tryz.sizeOf3
  v3 := Tryz.zeroValue3
  t4 := Tryz.underlying4
  a4 := Tryz.isAgg4
  z4 := Tryz.sizeOf4
  v4 := Tryz.zeroValue4
  t5 := Tryz.underlying5
  a5 := Tryz.isAgg5
  z5 := Tryz.sizeOf5
  v5 := Tryz.zeroValue5
  t9 := Tryz.underlying9
  a9 := Tryz.isAgg9
  z9 := Tryz.sizeOf9
  v9 := Tryz.zeroValue9
  t21 := Tryz.underlying21
  a21 := Tryz.isAgg21
  z21 := Tryz.sizeOf21
  v21 := Tryz.zeroValue21
  t46 := Tryz.underlying272
  a46 := Tryz.isAgg272
  z46 := Tryz.sizeOf272
  v46 := Tryz.zeroValue272
  t116 := Tryz.underlying239
  a116 := Tryz.isAgg239
  z116 := Tryz.sizeOf239
  t117 := Tryz.underlying240
  a117 := Tryz.isAgg240
  z117 := Tryz.sizeOf240
  v117 := Tryz.zeroValue240
  t124 := Tryz.underlying243
  a124 := Tryz.isAgg243
  z124 := Tryz.sizeOf243
  v124 := Tryz.zeroValue243 }
open Go.RowKit Go.Lib in
theorem Tryz.strings_IndexAny_none (s chars : ByteArray) (w : World) (h0 : chars.size = 0) :
    Calls Tryz.prog 136 #[.string s, .string chars] w fun e w' => e = .returned (.int .i64 (Lib.indexAny s.data.toList chars.data.toList)) ∧ w' = w := Any.strings_IndexAny_none Tryz.lays153 s chars w h0
open Go.RowKit Go.Lib in
theorem Tryz.strings_IndexAny_one (s chars : ByteArray) (w : World) (h1 : chars.size = 1) (hascii : ∀ (j : Nat) b, chars.data.toList[j]? = some b → b.toNat < 128) :
    Calls Tryz.prog 136 #[.string s, .string chars] w fun e w' => e = .returned (.int .i64 (Lib.indexAny s.data.toList chars.data.toList)) ∧ w' = w := Any.strings_IndexAny_one Tryz.lays153 s chars w h1 hascii
open Go.RowKit Go.Lib in
theorem Tryz.strings_IndexAny_long (hv116 : ∀ w, (zeroValue 239).run Tryz.prog w = .ok (.agg (Array.replicate 256 (.bool false))) w) (s chars : ByteArray) (w : World) (h2 : 2 ≤ chars.size) (h8 : 8 < s.size) (hs : s.size < 4294967281) (hcs : chars.size < 4294967281) (hascii : ∀ (j : Nat) b, chars.data.toList[j]? = some b → b.toNat < 128) :
    Calls Tryz.prog 136 #[.string s, .string chars] w fun e w' => e = .returned (.int .i64 (Lib.indexAny s.data.toList chars.data.toList)) ∧ w' = ((w.alloc (.cells (Lib.setCells chars.data.toList) 239)).alloc (.cells (Lib.setCells chars.data.toList) 239)) := Any.strings_IndexAny_long Tryz.lays153 hv116 krf s chars w h2 h8 hs hcs hascii
open Go.RowKit Go.Lib in
theorem Tryz.strings_IndexAny_laid (s chars : ByteArray) (w : World) (hs : s.size < 4294967281) (hcs : chars.size < 4294967281) (has : ∀ (j : Nat) b, s.data.toList[j]? = some b → b.toNat < 128) (hac : ∀ (j : Nat) b, chars.data.toList[j]? = some b → b.toNat < 128) :
    Calls Tryz.prog 136 #[.string s, .string chars] w fun e w' => e = .returned (.int .i64 (Lib.indexAny s.data.toList chars.data.toList)) ∧ Below w.heap.size w w' := Any.strings_IndexAny_laid Tryz.lays153 krf s chars w hs hcs has hac
end Go.Proofs
set_option linter.unusedVariables false
set_option linter.unusedSimpArgs false
set_option maxRecDepth 20000
namespace Go.Proofs
open Go.Wk Go.Px
open Go.Value renaming slice → Vs, int → Vi, bool → Vb, pointer → Vp
theorem sh_IndexByte (s : List UInt8) (c : UInt8) (w : World) : CR Tryz.prog 67 [str s, bt c] w fun v w' => v = .int .i64 (ixb (· == c) s) ∧ Hp w [] [] w' := by
  have h := Tryz.strings_IndexByte ⟨s.toArray⟩ (c.toNat : Int) w
  rw [show ((c.toNat : Int).toNat.toUInt8) = c by simp] at h
  rw [← indexByte_ixb]
  exact abq h
theorem sh_LastIndexByte (s : List UInt8) (c : UInt8) (w : World) (hs : s.length ≤ 1000000000) : CR Tryz.prog 77 [str s, bt c] w fun v w' => v = .int .i64 (lixb (· == c) s) ∧ Hp w [] [] w' := by
  have h := Tryz.strings_LastIndexByte ⟨s.toArray⟩ (c.toNat : Int) (by show s.length < _; omega) w
  rw [lastIndexByte_lixb] at h
  exact abq h
theorem sh_Contains (s t : List UInt8) (w : World) (hs : s.length ≤ 1000000000) (hG : Gl w) : CR Tryz.prog 259 [str s, str t] w fun v w' => v = .bool (Lib.contains s t) ∧ Hp w [] [] w' := by
  obtain ⟨m, hm⟩ := hG.cell
  exact abq (Tryz.strings_Contains ⟨s.toArray⟩ ⟨t.toArray⟩ m w (by show s.length < _; omega) hm)
theorem sh_Index (s t : List UInt8) (w : World) (hs : s.length ≤ 1000000000) (hG : Gl w) : CR Tryz.prog 335 [str s, str t] w fun v w' => v = .int .i64 (Lib.index s t) ∧ Hp w [] [] w' := by
  obtain ⟨m, hm⟩ := hG.cell
  exact abq (Tryz.strings_Index ⟨s.toArray⟩ ⟨t.toArray⟩ m w (by show s.length < _; omega) hm)
theorem sh_Cut (s t : List UInt8) (w : World) (hs : s.length ≤ 1000000000) (hG : Gl w) : CR Tryz.prog 248 [str s, str t] w fun v w' => v = .tuple #[str (Lib.cut s t).1, str (Lib.cut s t).2.1, .bool (Lib.cut s t).2.2] ∧ Hp w [] [] w' := by
  obtain ⟨m, hm⟩ := hG.cell
  exact cr_drew (Tryz.strings_Cut ⟨s.toArray⟩ ⟨t.toArray⟩ m w (by show s.length < _; omega) hm)
theorem sh_CutPrefix (s t : List UInt8) (w : World) : CR Tryz.prog 337 [str s, str t] w fun v w' => v = .tuple #[str (Lib.trimPrefix s t), .bool (Lib.hasPrefix s t)] ∧ Hp w [] [] w' := by
  exact abq (Tryz.strings_CutPrefix ⟨s.toArray⟩ ⟨t.toArray⟩ w)
theorem sh_TrimPrefix (s t : List UInt8) (w : World) : CR Tryz.prog 134 [str s, str t] w fun v w' => v = str (Lib.trimPrefix s t) ∧ Hp w [] [] w' := by
  exact abq (Tryz.strings_TrimPrefix ⟨s.toArray⟩ ⟨t.toArray⟩ w)
theorem sh_Trim (s t : List UInt8) (w : World) (hs : s.length ≤ 1000000000) (ht : t.length ≤ 1000 ∧ t.all (fun b => decide (b.toNat < 128)) = true) : CR Tryz.prog 125 [str s, str t] w fun v w' => v = str (Lib.trimS s t) ∧ Hp w [] [] w' := by
  exact cr_below (Any.strings_Trim_laid Tryz.lays160 krf ⟨s.toArray⟩ ⟨t.toArray⟩ w (by show s.length ≤ _; omega) (by show t.length < _; omega) (ascii_of_all ht.2))
theorem sh_TrimLeft (s t : List UInt8) (w : World) (hs : s.length ≤ 1000000000) (ht : t.length ≤ 1000 ∧ t.all (fun b => decide (b.toNat < 128)) = true) : CR Tryz.prog 329 [str s, str t] w fun v w' => v = str (Lib.trimLeftS s t) ∧ Hp w [] [] w' := by
  exact cr_below (Any.strings_TrimLeft_laid Tryz.lays161 krf ⟨s.toArray⟩ ⟨t.toArray⟩ w (by show t.length < _; omega) (ascii_of_all ht.2))
theorem sh_TrimRight (s t : List UInt8) (w : World) (hs : s.length ≤ 1000000000) (ht : t.length ≤ 1000 ∧ t.all (fun b => decide (b.toNat < 128)) = true) : CR Tryz.prog 382 [str s, str t] w fun v w' => v = str (Lib.trimRightS s t) ∧ Hp w [] [] w' := by
  exact cr_below (Any.strings_TrimRight_laid Tryz.lays162 krf ⟨s.toArray⟩ ⟨t.toArray⟩ w (by show s.length ≤ _; omega) (by show t.length < _; omega) (ascii_of_all ht.2))
theorem sh_Itoa (i : Int) (w : World) (hi : ok64 i) (hG : Gl w) : CR Tryz.prog 46 [.int .i64 i] w fun v w' => v = str (Lib.itoa i) ∧ Hp w [] [] w' := by
  obtain ⟨t, f, e⟩ := hG.pow10
  have hT : Lib.TabIs Tryz.prog w "internal/strconv.uint64pow10" .u64 Lib.pow10Tab := by
    unfold Lib.TabIs World.var?
    rw [show Tryz.prog.globalNamed "internal/strconv.uint64pow10" = some 6 by kernel_rfl]
    simp [e]
  have h := Tryz.strconv_Itoa i hi.1 hi.2 w hT
  exact Calls.mono h fun _ _ ⟨e, k, os, hb⟩ => ⟨_, e, rfl, hb ▸ hp_grow k os⟩
theorem sh_Split (s : List UInt8) (c : UInt8) (w : World) (hs : s.length ≤ 1000000000) (hG : Gl w) : CR Tryz.prog 251 [str s, str [c]] w fun v w' => ∃ o a cap, v = .slice a (spl c s).length cap ∧ Hp w [] [rwt eS 9 1 o a cap (spl c s)] w' := by
  obtain ⟨m, hm⟩ := hG.cell
  have h := Tryz.strings_Split ⟨s.toArray⟩ ⟨#[c]⟩ m w (by show s.length < _; omega) hm (by show 1 ≤ 1; omega)
  rw [split_spl, split_spl_len] at h
  refine Calls.mono h ?_
  rintro _ _ ⟨rfl, rfl⟩
  have h1 := (Hp.refl w).alloc ((spl c s).map str) 9
  have := (spl_sum c s).1
  have e : (spl c s).flatMap eS = (spl c s).map str := by
    generalize spl c s = l
    induction l with
    | nil => rfl
    | cons x l ih => rw [List.flatMap_cons, ih]; rfl
  exact ⟨_, rfl, some w.heap.size, _, _, rfl, h1.blkrw 0 1 (spl c s).length (spl c s) rfl enc_S e rfl (by simp [maxLen]; omega)⟩
theorem flatS (l : List (List UInt8)) : l.flatMap eS = l.map str := by
  induction l with
  | nil => rfl
  | cons x l ih => rw [List.flatMap_cons, ih]; rfl
theorem sh_Join (t : List UInt8) (w : World) (a : Option Addr) (n cap : Nat) (xs : List (List UInt8)) (hn : n = xs.length) (hRe : Rd w a (xs.flatMap eS)) (hCa : n ≤ cap) (hN : xs.length ≤ 1000000000 ∧ (Lib.join xs t).length ≤ 100000000000) : CR Tryz.prog 250 [.slice a n cap, str t] w fun v w' => v = str (Lib.join xs t) ∧ Hp w [] [] w' := by
  subst hn
  rw [flatS] at hRe
  cases xs with
  | nil => exact abq (Tryz.strings_Join_none a cap ⟨t.toArray⟩ w)
  | cons x r =>
    obtain ⟨p, rfl, hp⟩ := hRe 0 (str x) (by simp)
    have hbk := cell_lt hp
    rw [add_block] at hbk
    have hsp : p.spot = none := by
      have := rd_spot hp
      simpa [Addr.add] using this
    obtain ⟨bk, o, sp⟩ := p
    simp only at hsp hbk
    subst hsp
    have e : ((x :: r).map fun l => (⟨l.toArray⟩ : ByteArray)).map (·.data.toList) = x :: r := by rw [List.map_map]; exact List.map_id _
    have h := Tryz.strings_Join bk o cap ((x :: r).map fun l => (⟨l.toArray⟩ : ByteArray)) ⟨t.toArray⟩ w (fun j y hy => by
      have := row_strs ⟨bk, o, none⟩ (x :: r) hRe j y hy
      cases j <;> simpa [Addr.add] using this) hbk (by rw [List.length_map]; omega) (by rw [List.length_map]; exact hCa) (by rw [e]; show (Lib.join (x :: r) t).length ≤ _; omega)
    rw [e, List.length_map] at h
    exact cr_below h
theorem sh_IndexAny (s t : List UInt8) (w : World) (h : s.length ≤ 1000000000 ∧ t.length ≤ 1000 ∧ t.all (fun b => decide (b.toNat < 128)) = true ∧ (8 < s.length ∨ t.length ≤ 1 ∨ s.all (fun b => decide (b.toNat < 128)) = true)) : CR Tryz.prog 136 [str s, str t] w fun v w' => v = .int .i64 (Lib.indexAny s t) ∧ Hp w [] [] w' := by
  obtain ⟨h1, h2, h3, h4⟩ := h
  by_cases h0 : t.length = 0
  · exact abq (Tryz.strings_IndexAny_none ⟨s.toArray⟩ ⟨t.toArray⟩ w h0)
  by_cases h1' : t.length = 1
  · exact abq (Tryz.strings_IndexAny_one ⟨s.toArray⟩ ⟨t.toArray⟩ w h1' (ascii_of_all h3))
  rcases h4 with h4 | h4 | h4
  · have hz : ∀ w, (zeroValue 239).run Tryz.prog w = .ok (.agg (Array.replicate 256 (.bool false))) w := (zero_of_info (n := 256) krf).1
    have h := Tryz.strings_IndexAny_long hz ⟨s.toArray⟩ ⟨t.toArray⟩ w (by show 2 ≤ t.length; omega) (by show 8 < s.length; omega) (by show s.length < _; omega) (by show t.length < _; omega) (ascii_of_all h3)
    refine Calls.mono h ?_
    rintro _ _ ⟨rfl, rfl⟩
    exact ⟨_, rfl, rfl, Hp.ofBelow ⟨rfl, rfl, rfl, by simp; omega, fun k hk => by rw [RowKit.Below.heap_alloc _ _ k (by simp; omega), RowKit.Below.heap_alloc _ _ k hk]⟩⟩
  · omega
  · exact cr_below (Tryz.strings_IndexAny_laid ⟨s.toArray⟩ ⟨t.toArray⟩ w (by show s.length < _; omega) (by show t.length < _; omega) (ascii_of_all h4) (ascii_of_all h3))
theorem sh_copyCheck (b : Nat) (z : Bool) (s : Value) (w : World) (hM : Hp w (owns [blk b [Vp (bif z then some ⟨b, 0, none⟩ else none), s] 188]) [blk b [Vp (bif z then some ⟨b, 0, none⟩ else none), s] 188] w) : CR Tryz.prog 265 [Vp (some ⟨b, 0, none⟩)] w fun v w' => v = .tuple #[] ∧ Hp w (owns [blk b [Vp (bif z then some ⟨b, 0, none⟩ else none), s] 188]) [blk b [Vp (some ⟨b, 0, none⟩), s] 188] w' := by
  cases z with
  | false =>
    have hH : Hp w (owns [blk b [(Vp none), s] 188]) [blk b [(Vp none), s] 188] w := hM
    refine enter (k := 20) Tryz.func265 rfl rfl (Nat.le_of_ble_eq_true rfl) ?_
    refine c_seq ?_
    refine c_region ?_
    refine w_move (Vp (some ⟨b, 0, none⟩)) krf ?_
    refine abk (v := (Vp (some ⟨b, 0, none⟩))) (w' := w) rfl rfl krf ?_
    refine abk (v := (Vp (some ⟨b, 0, none⟩))) (w' := w) rfl rfl krf ?_
    refine w_ld1 hH 0 b 0 [(Vp none), s] 188 (Vp none) rfl rfl krf krf ?_
    refine w_pnil none Tryz.underlying186 krf krf ?_
    refine w_nil ?_
    refine q_next ?_
    refine c_true krf ?_
    refine c_region ?_
    refine w_move (Vp (some ⟨b, 0, none⟩)) krf ?_
    refine w_move (Vp (some ⟨b, 0, none⟩)) krf ?_
    refine w_toUns hH 0 b 0 188 [(Vp none), s] rfl Tryz.underlying186 Tryz.underlying326 krf (by simp) krf ?_
    refine w_noEsc hH 338 (Vp (some ⟨b, 0, none⟩)) krf krf Tryz.func338 krf krf krf krf ?_
    intro w1 a0
    refine w_ofUns a0 0 b 0 188 [(Vp none), s] rfl Tryz.underlying326 Tryz.underlying186 krf krf krf ?_
    refine abk (v := (Vp (some ⟨b, 0, none⟩))) (w' := w1) rfl rfl krf ?_
    refine abk (v := (Vp (some ⟨b, 0, none⟩))) (w' := w1) rfl rfl krf ?_
    refine w_st1 a0 0 b 0 [(Vp none), s] 188 (Vp (some ⟨b, 0, none⟩)) [blk b [(Vp (some ⟨b, 0, none⟩)), s] 188] rfl (Nat.lt_of_lt_of_le (Nat.lt_succ_self _) (Nat.le_of_ble_eq_true rfl)) krf krf rfl krf rfl ?_
    intro w3 a1
    refine w_nil ?_
    refine r_none'  rfl  ?_
    exact ⟨rfl, a1.kp⟩
  | true =>
    have hH : Hp w (owns [blk b [(Vp (some ⟨b, 0, none⟩)), s] 188]) [blk b [(Vp (some ⟨b, 0, none⟩)), s] 188] w := hM
    refine enter (k := 20) Tryz.func265 rfl rfl (Nat.le_of_ble_eq_true rfl) ?_
    refine c_seq ?_
    refine c_region ?_
    refine w_move (Vp (some ⟨b, 0, none⟩)) krf ?_
    refine abk (v := (Vp (some ⟨b, 0, none⟩))) (w' := w) rfl rfl krf ?_
    refine abk (v := (Vp (some ⟨b, 0, none⟩))) (w' := w) rfl rfl krf ?_
    refine w_ld1 hH 0 b 0 [(Vp (some ⟨b, 0, none⟩)), s] 188 (Vp (some ⟨b, 0, none⟩)) rfl rfl krf krf ?_
    refine w_pnil (some ⟨b, 0, none⟩) Tryz.underlying186 krf krf ?_
    refine w_nil ?_
    refine q_next ?_
    refine c_false krf ?_
    refine c_seq ?_
    refine c_region ?_
    refine w_move (Vp (some ⟨b, 0, none⟩)) krf ?_
    refine abk (v := (Vp (some ⟨b, 0, none⟩))) (w' := w) rfl rfl krf ?_
    refine abk (v := (Vp (some ⟨b, 0, none⟩))) (w' := w) rfl rfl krf ?_
    refine w_ld1 hH 0 b 0 [(Vp (some ⟨b, 0, none⟩)), s] 188 (Vp (some ⟨b, 0, none⟩)) rfl rfl krf krf ?_
    refine w_move (Vp (some ⟨b, 0, none⟩)) krf ?_
    refine w_pself ⟨b, 0, none⟩ Tryz.underlying186 krf krf krf ?_
    refine w_nil ?_
    refine q_next ?_
    refine c_false krf ?_
    refine c_skip ?_
    refine r_none'  rfl  ?_
    exact ⟨rfl, hH.kp⟩
end Go.Proofs
set_option linter.unusedVariables false
set_option linter.unusedSimpArgs false
set_option maxRecDepth 20000
namespace Go.Proofs
open Go.Wk Go.Px Go.Ce
theorem beqn (c : UInt8) : (fun d : UInt8 => Nat.beq d.toNat c.toNat) = (· == c) := by
  funext d
  rw [Bool.eq_iff_iff]
  simp [Nat.beq_eq, UInt8.toNat_inj]
def cg0 : List SC := [.s 7 19220757857722691, .s 4 1902465859, .s 12 34178039824424540632871946573, .s 6 76223546812749, .s 4 1801666898, .s 4 1902465874, .s 16 134856309279822869049672161412773271383]
def cg2 : List SC := [.s 8 3404504904086797606, .s 7 10180542346517851, .s 7 10180628329749851]
def cg5 : List SC := [.s 4 1836020294, .i .i64 1, .s 2 28500, .i .i64 1, .s 7 32760367514808131, .i .i64 1, .s 5 435745550162, .i .i64 1, .s 12 31398775957419736383438939474, .i .i64 1, .s 4 1752457552, .i .i64 1, .s 13 8038086645099452779117220619603, .i .i64 1, .s 8 8022086805604427090, .i .i64 1, .s 11 146592537699037055746991442, .i .i64 1, .s 8 8022086835787294034, .i .i64 1, .s 3 6383958, .i .i64 2, .s 4 1902465859, .i .i64 3, .s 4 1801666898, .i .i64 4, .s 14 2118593076047644386086300223958851, .i .i64 5, .s 7 32481164391381061, .i .i64 5, .s 12 35712208859136432295261004109, .i .i64 5, .s 11 139505538796981402030991693, .i .i64 5, .s 4 1902465874, .i .i64 5, .s 19 2462787319963300618914069775828421739474218819, .i .i64 6, .s 12 31393958642898984038472511299, .i .i64 6, .s 5 500068349509, .i .i64 6, .s 6 76223546812749, .i .i64 6, .s 15 599171726743894305243344019148465491, .i .i64 6, .s 18 8837943172779679942406515151746074144830803, .i .i64 6, .s 6 128026086171457, .i .i64 7, .s 5 512970484801, .i .i64 7, .s 12 35731532856486514854116224065, .i .i64 7, .s 13 8037453196880052494869233365584, .i .i64 7, .s 7 28554769915274578, .i .i64 7, .s 9 1851985001289037673811, .i .i64 7, .s 11 121371689044478372993003093, .i .i64 7]
def cg9 : List SC := [.i .u32 1116352408, .i .u32 1899447441, .i .u32 3049323471, .i .u32 3921009573, .i .u32 961987163, .i .u32 1508970993, .i .u32 2453635748, .i .u32 2870763221, .i .u32 3624381080, .i .u32 310598401, .i .u32 607225278, .i .u32 1426881987, .i .u32 1925078388, .i .u32 2162078206, .i .u32 2614888103, .i .u32 3248222580, .i .u32 3835390401, .i .u32 4022224774, .i .u32 264347078, .i .u32 604807628, .i .u32 770255983, .i .u32 1249150122, .i .u32 1555081692, .i .u32 1996064986, .i .u32 2554220882, .i .u32 2821834349, .i .u32 2952996808, .i .u32 3210313671, .i .u32 3336571891, .i .u32 3584528711, .i .u32 113926993, .i .u32 338241895, .i .u32 666307205, .i .u32 773529912, .i .u32 1294757372, .i .u32 1396182291, .i .u32 1695183700, .i .u32 1986661051, .i .u32 2177026350, .i .u32 2456956037, .i .u32 2730485921, .i .u32 2820302411, .i .u32 3259730800, .i .u32 3345764771, .i .u32 3516065817, .i .u32 3600352804, .i .u32 4094571909, .i .u32 275423344, .i .u32 430227734, .i .u32 506948616, .i .u32 659060556, .i .u32 883997877, .i .u32 958139571, .i .u32 1322822218, .i .u32 1537002063, .i .u32 1747873779, .i .u32 1955562222, .i .u32 2024104815, .i .u32 2227730452, .i .u32 2361852424, .i .u32 2428436474, .i .u32 2756734187, .i .u32 3204031479, .i .u32 3329325298]
noncomputable def cxG (k : Nat) : Option (List SC) := bi (Nat.beq k (nat_lit 0)) (some cg0) (bi (Nat.beq k (nat_lit 2)) (some cg2) (bi (Nat.beq k (nat_lit 5)) (some cg5) (bi (Nat.beq k (nat_lit 9)) (some cg9) (none))))
noncomputable def cx46 : List SV → Hs → Option (SV × Hs) := xi fun a => cv (str (Lib.itoa a))
noncomputable def cx67 : List SV → Hs → Option (SV × Hs) := xsb fun a b => cv (.int .i64 (ixb (fun d => Nat.beq d.toNat b.toNat) a))
noncomputable def cx77 : List SV → Hs → Option (SV × Hs) := xsb fun a b => bi (Nat.ble (aaw a) (nat_lit 1000000000)) (cv (.int .i64 (lixb (fun d => Nat.beq d.toNat b.toNat) a))) none
noncomputable def cx125 : List SV → Hs → Option (SV × Hs) := xs2 fun a b => bi (Nat.ble (aaw a) (nat_lit 1000000000)) (bi (Nat.ble (aaw b) (nat_lit 1000)) (bi (b.all (fun b => decide (b.toNat < 128))) (cv (str (Lib.trimS a b))) none) none) none
noncomputable def cx134 : List SV → Hs → Option (SV × Hs) := xs2 fun a b => cv (str (Lib.trimPrefix a b))
noncomputable def cx136 : List SV → Hs → Option (SV × Hs) := xs2 fun a b => bi (Nat.ble (aaw a) (nat_lit 1000000000)) (bi (Nat.ble (aaw b) (nat_lit 1000)) (bi (b.all (fun b => decide (b.toNat < 128))) (bi (or (Nat.ble (nat_lit 9) (aaw a)) (or (Nat.ble (aaw b) (nat_lit 1)) (a.all (fun b => decide (b.toNat < 128))))) (cv (.int .i64 (Lib.indexAny a b))) none) none) none) none
noncomputable def cx248 : List SV → Hs → Option (SV × Hs) := xs2 fun a b => bi (Nat.ble (aaw a) (nat_lit 1000000000)) (cvT [str (Lib.cut a b).1, str (Lib.cut a b).2.1, .bool (Lib.cut a b).2.2]) none
noncomputable def cx250 : List SV → Hs → Option (SV × Hs) := xjoin
noncomputable def cx251 : List SV → Hs → Option (SV × Hs) := xsplit 9
noncomputable def cx259 : List SV → Hs → Option (SV × Hs) := xs2 fun a b => bi (Nat.ble (aaw a) (nat_lit 1000000000)) (cv (.bool (Lib.contains a b))) none
noncomputable def cx265 : List SV → Hs → Option (SV × Hs) := xcc 188
noncomputable def cx329 : List SV → Hs → Option (SV × Hs) := xs2 fun a b => bi (Nat.ble (aaw a) (nat_lit 1000000000)) (bi (Nat.ble (aaw b) (nat_lit 1000)) (bi (b.all (fun b => decide (b.toNat < 128))) (cv (str (Lib.trimLeftS a b))) none) none) none
noncomputable def cx335 : List SV → Hs → Option (SV × Hs) := xs2 fun a b => bi (Nat.ble (aaw a) (nat_lit 1000000000)) (cv (.int .i64 (Lib.index a b))) none
noncomputable def cx337 : List SV → Hs → Option (SV × Hs) := xs2 fun a b => cvT [str (Lib.trimPrefix a b), .bool (Lib.hasPrefix a b)]
noncomputable def cx382 : List SV → Hs → Option (SV × Hs) := xs2 fun a b => bi (Nat.ble (aaw a) (nat_lit 1000000000)) (bi (Nat.ble (aaw b) (nat_lit 1000)) (bi (b.all (fun b => decide (b.toNat < 128))) (cv (str (Lib.trimRightS a b))) none) none) none
noncomputable def cxX (k : Nat) : Option (List SV → Hs → Option (SV × Hs)) := bi (Nat.blt k (nat_lit 250)) (bi (Nat.blt k (nat_lit 125)) (bi (Nat.blt k (nat_lit 67)) (bi (Nat.beq k (nat_lit 46)) (some cx46) (none)) (bi (Nat.blt k (nat_lit 77)) (bi (Nat.beq k (nat_lit 67)) (some cx67) (none)) (bi (Nat.beq k (nat_lit 77)) (some cx77) (none)))) (bi (Nat.blt k (nat_lit 136)) (bi (Nat.blt k (nat_lit 134)) (bi (Nat.beq k (nat_lit 125)) (some cx125) (none)) (bi (Nat.beq k (nat_lit 134)) (some cx134) (none))) (bi (Nat.blt k (nat_lit 248)) (bi (Nat.beq k (nat_lit 136)) (some cx136) (none)) (bi (Nat.beq k (nat_lit 248)) (some cx248) (none))))) (bi (Nat.blt k (nat_lit 329)) (bi (Nat.blt k (nat_lit 259)) (bi (Nat.blt k (nat_lit 251)) (bi (Nat.beq k (nat_lit 250)) (some cx250) (none)) (bi (Nat.beq k (nat_lit 251)) (some cx251) (none))) (bi (Nat.blt k (nat_lit 265)) (bi (Nat.beq k (nat_lit 259)) (some cx259) (none)) (bi (Nat.beq k (nat_lit 265)) (some cx265) (none)))) (bi (Nat.blt k (nat_lit 337)) (bi (Nat.blt k (nat_lit 335)) (bi (Nat.beq k (nat_lit 329)) (some cx329) (none)) (bi (Nat.beq k (nat_lit 335)) (some cx335) (none))) (bi (Nat.blt k (nat_lit 382)) (bi (Nat.beq k (nat_lit 337)) (some cx337) (none)) (bi (Nat.beq k (nat_lit 382)) (some cx382) (none)))))
noncomputable def cxP (k : Nat) : Bool := bi (Nat.blt k (nat_lit 269)) (bi (Nat.blt k (nat_lit 145)) (bi (Nat.blt k (nat_lit 77)) (bi (Nat.blt k (nat_lit 34)) (bi (Nat.blt k (nat_lit 14)) (bi (Nat.blt k (nat_lit 3)) (bi (Nat.blt k (nat_lit 1)) (bi (Nat.beq k (nat_lit 0)) (true) (false)) (bi (Nat.blt k (nat_lit 2)) (bi (Nat.beq k (nat_lit 1)) (true) (false)) (bi (Nat.beq k (nat_lit 2)) (true) (false)))) (bi (Nat.blt k (nat_lit 4)) (bi (Nat.beq k (nat_lit 3)) (true) (false)) (bi (Nat.blt k (nat_lit 7)) (bi (Nat.beq k (nat_lit 4)) (true) (false)) (bi (Nat.beq k (nat_lit 7)) (true) (false))))) (bi (Nat.blt k (nat_lit 24)) (bi (Nat.blt k (nat_lit 21)) (bi (Nat.beq k (nat_lit 14)) (true) (false)) (bi (Nat.blt k (nat_lit 22)) (bi (Nat.beq k (nat_lit 21)) (true) (false)) (bi (Nat.beq k (nat_lit 22)) (true) (false)))) (bi (Nat.blt k (nat_lit 31)) (bi (Nat.blt k (nat_lit 29)) (bi (Nat.beq k (nat_lit 24)) (true) (false)) (bi (Nat.beq k (nat_lit 29)) (true) (false))) (bi (Nat.blt k (nat_lit 33)) (bi (Nat.beq k (nat_lit 31)) (true) (false)) (bi (Nat.beq k (nat_lit 33)) (true) (false)))))) (bi (Nat.blt k (nat_lit 58)) (bi (Nat.blt k (nat_lit 42)) (bi (Nat.blt k (nat_lit 38)) (bi (Nat.beq k (nat_lit 34)) (true) (false)) (bi (Nat.blt k (nat_lit 40)) (bi (Nat.beq k (nat_lit 38)) (true) (false)) (bi (Nat.beq k (nat_lit 40)) (true) (false)))) (bi (Nat.blt k (nat_lit 46)) (bi (Nat.beq k (nat_lit 42)) (true) (false)) (bi (Nat.blt k (nat_lit 49)) (bi (Nat.beq k (nat_lit 46)) (true) (false)) (bi (Nat.beq k (nat_lit 49)) (true) (false))))) (bi (Nat.blt k (nat_lit 61)) (bi (Nat.blt k (nat_lit 59)) (bi (Nat.beq k (nat_lit 58)) (true) (false)) (bi (Nat.blt k (nat_lit 60)) (bi (Nat.beq k (nat_lit 59)) (true) (false)) (bi (Nat.beq k (nat_lit 60)) (true) (false)))) (bi (Nat.blt k (nat_lit 68)) (bi (Nat.blt k (nat_lit 67)) (bi (Nat.beq k (nat_lit 61)) (true) (false)) (bi (Nat.beq k (nat_lit 67)) (true) (false))) (bi (Nat.blt k (nat_lit 73)) (bi (Nat.beq k (nat_lit 68)) (true) (false)) (bi (Nat.beq k (nat_lit 73)) (true) (false))))))) (bi (Nat.blt k (nat_lit 116)) (bi (Nat.blt k (nat_lit 92)) (bi (Nat.blt k (nat_lit 86)) (bi (Nat.blt k (nat_lit 79)) (bi (Nat.beq k (nat_lit 77)) (true) (false)) (bi (Nat.blt k (nat_lit 82)) (bi (Nat.beq k (nat_lit 79)) (true) (false)) (bi (Nat.beq k (nat_lit 82)) (true) (false)))) (bi (Nat.blt k (nat_lit 87)) (bi (Nat.beq k (nat_lit 86)) (true) (false)) (bi (Nat.blt k (nat_lit 91)) (bi (Nat.beq k (nat_lit 87)) (true) (false)) (bi (Nat.beq k (nat_lit 91)) (true) (false))))) (bi (Nat.blt k (nat_lit 99)) (bi (Nat.blt k (nat_lit 96)) (bi (Nat.beq k (nat_lit 92)) (true) (false)) (bi (Nat.blt k (nat_lit 97)) (bi (Nat.beq k (nat_lit 96)) (true) (false)) (bi (Nat.beq k (nat_lit 97)) (true) (false)))) (bi (Nat.blt k (nat_lit 109)) (bi (Nat.blt k (nat_lit 105)) (bi (Nat.beq k (nat_lit 99)) (true) (false)) (bi (Nat.beq k (nat_lit 105)) (true) (false))) (bi (Nat.blt k (nat_lit 115)) (bi (Nat.beq k (nat_lit 109)) (true) (false)) (bi (Nat.beq k (nat_lit 115)) (true) (false)))))) (bi (Nat.blt k (nat_lit 133)) (bi (Nat.blt k (nat_lit 125)) (bi (Nat.blt k (nat_lit 118)) (bi (Nat.beq k (nat_lit 116)) (true) (false)) (bi (Nat.blt k (nat_lit 124)) (bi (Nat.beq k (nat_lit 118)) (true) (false)) (bi (Nat.beq k (nat_lit 124)) (true) (false)))) (bi (Nat.blt k (nat_lit 127)) (bi (Nat.blt k (nat_lit 126)) (bi (Nat.beq k (nat_lit 125)) (true) (false)) (bi (Nat.beq k (nat_lit 126)) (true) (false))) (bi (Nat.blt k (nat_lit 131)) (bi (Nat.beq k (nat_lit 127)) (true) (false)) (bi (Nat.beq k (nat_lit 131)) (true) (false))))) (bi (Nat.blt k (nat_lit 139)) (bi (Nat.blt k (nat_lit 134)) (bi (Nat.beq k (nat_lit 133)) (true) (false)) (bi (Nat.blt k (nat_lit 136)) (bi (Nat.beq k (nat_lit 134)) (true) (false)) (bi (Nat.beq k (nat_lit 136)) (true) (false)))) (bi (Nat.blt k (nat_lit 141)) (bi (Nat.blt k (nat_lit 140)) (bi (Nat.beq k (nat_lit 139)) (true) (false)) (bi (Nat.beq k (nat_lit 140)) (true) (false))) (bi (Nat.blt k (nat_lit 144)) (bi (Nat.beq k (nat_lit 141)) (true) (false)) (bi (Nat.beq k (nat_lit 144)) (true) (false)))))))) (bi (Nat.blt k (nat_lit 218)) (bi (Nat.blt k (nat_lit 170)) (bi (Nat.blt k (nat_lit 157)) (bi (Nat.blt k (nat_lit 152)) (bi (Nat.blt k (nat_lit 146)) (bi (Nat.beq k (nat_lit 145)) (true) (false)) (bi (Nat.blt k (nat_lit 147)) (bi (Nat.beq k (nat_lit 146)) (true) (false)) (bi (Nat.beq k (nat_lit 147)) (true) (false)))) (bi (Nat.blt k (nat_lit 155)) (bi (Nat.beq k (nat_lit 152)) (true) (false)) (bi (Nat.blt k (nat_lit 156)) (bi (Nat.beq k (nat_lit 155)) (true) (false)) (bi (Nat.beq k (nat_lit 156)) (true) (false))))) (bi (Nat.blt k (nat_lit 164)) (bi (Nat.blt k (nat_lit 162)) (bi (Nat.beq k (nat_lit 157)) (true) (false)) (bi (Nat.blt k (nat_lit 163)) (bi (Nat.beq k (nat_lit 162)) (true) (false)) (bi (Nat.beq k (nat_lit 163)) (true) (false)))) (bi (Nat.blt k (nat_lit 166)) (bi (Nat.blt k (nat_lit 165)) (bi (Nat.beq k (nat_lit 164)) (true) (false)) (bi (Nat.beq k (nat_lit 165)) (true) (false))) (bi (Nat.blt k (nat_lit 168)) (bi (Nat.beq k (nat_lit 166)) (true) (false)) (bi (Nat.beq k (nat_lit 168)) (true) (false)))))) (bi (Nat.blt k (nat_lit 189)) (bi (Nat.blt k (nat_lit 177)) (bi (Nat.blt k (nat_lit 173)) (bi (Nat.beq k (nat_lit 170)) (true) (false)) (bi (Nat.blt k (nat_lit 174)) (bi (Nat.beq k (nat_lit 173)) (true) (false)) (bi (Nat.beq k (nat_lit 174)) (true) (false)))) (bi (Nat.blt k (nat_lit 180)) (bi (Nat.blt k (nat_lit 178)) (bi (Nat.beq k (nat_lit 177)) (true) (false)) (bi (Nat.beq k (nat_lit 178)) (true) (false))) (bi (Nat.blt k (nat_lit 188)) (bi (Nat.beq k (nat_lit 180)) (true) (false)) (bi (Nat.beq k (nat_lit 188)) (true) (false))))) (bi (Nat.blt k (nat_lit 199)) (bi (Nat.blt k (nat_lit 190)) (bi (Nat.beq k (nat_lit 189)) (true) (false)) (bi (Nat.blt k (nat_lit 191)) (bi (Nat.beq k (nat_lit 190)) (true) (false)) (bi (Nat.beq k (nat_lit 191)) (true) (false)))) (bi (Nat.blt k (nat_lit 210)) (bi (Nat.blt k (nat_lit 206)) (bi (Nat.beq k (nat_lit 199)) (true) (false)) (bi (Nat.beq k (nat_lit 206)) (true) (false))) (bi (Nat.blt k (nat_lit 214)) (bi (Nat.beq k (nat_lit 210)) (true) (false)) (bi (Nat.beq k (nat_lit 214)) (true) (false))))))) (bi (Nat.blt k (nat_lit 237)) (bi (Nat.blt k (nat_lit 229)) (bi (Nat.blt k (nat_lit 224)) (bi (Nat.blt k (nat_lit 219)) (bi (Nat.beq k (nat_lit 218)) (true) (false)) (bi (Nat.blt k (nat_lit 223)) (bi (Nat.beq k (nat_lit 219)) (true) (false)) (bi (Nat.beq k (nat_lit 223)) (true) (false)))) (bi (Nat.blt k (nat_lit 225)) (bi (Nat.beq k (nat_lit 224)) (true) (false)) (bi (Nat.blt k (nat_lit 226)) (bi (Nat.beq k (nat_lit 225)) (true) (false)) (bi (Nat.beq k (nat_lit 226)) (true) (false))))) (bi (Nat.blt k (nat_lit 233)) (bi (Nat.blt k (nat_lit 230)) (bi (Nat.beq k (nat_lit 229)) (true) (false)) (bi (Nat.blt k (nat_lit 232)) (bi (Nat.beq k (nat_lit 230)) (true) (false)) (bi (Nat.beq k (nat_lit 232)) (true) (false)))) (bi (Nat.blt k (nat_lit 235)) (bi (Nat.blt k (nat_lit 234)) (bi (Nat.beq k (nat_lit 233)) (true) (false)) (bi (Nat.beq k (nat_lit 234)) (true) (false))) (bi (Nat.blt k (nat_lit 236)) (bi (Nat.beq k (nat_lit 235)) (true) (false)) (bi (Nat.beq k (nat_lit 236)) (true) (false)))))) (bi (Nat.blt k (nat_lit 255)) (bi (Nat.blt k (nat_lit 242)) (bi (Nat.blt k (nat_lit 238)) (bi (Nat.beq k (nat_lit 237)) (true) (false)) (bi (Nat.blt k (nat_lit 239)) (bi (Nat.beq k (nat_lit 238)) (true) (false)) (bi (Nat.beq k (nat_lit 239)) (true) (false)))) (bi (Nat.blt k (nat_lit 252)) (bi (Nat.blt k (nat_lit 248)) (bi (Nat.beq k (nat_lit 242)) (true) (false)) (bi (Nat.beq k (nat_lit 248)) (true) (false))) (bi (Nat.blt k (nat_lit 254)) (bi (Nat.beq k (nat_lit 252)) (true) (false)) (bi (Nat.beq k (nat_lit 254)) (true) (false))))) (bi (Nat.blt k (nat_lit 263)) (bi (Nat.blt k (nat_lit 259)) (bi (Nat.beq k (nat_lit 255)) (true) (false)) (bi (Nat.blt k (nat_lit 262)) (bi (Nat.beq k (nat_lit 259)) (true) (false)) (bi (Nat.beq k (nat_lit 262)) (true) (false)))) (bi (Nat.blt k (nat_lit 267)) (bi (Nat.blt k (nat_lit 266)) (bi (Nat.beq k (nat_lit 263)) (true) (false)) (bi (Nat.beq k (nat_lit 266)) (true) (false))) (bi (Nat.blt k (nat_lit 268)) (bi (Nat.beq k (nat_lit 267)) (true) (false)) (bi (Nat.beq k (nat_lit 268)) (true) (false))))))))) (bi (Nat.blt k (nat_lit 370)) (bi (Nat.blt k (nat_lit 326)) (bi (Nat.blt k (nat_lit 308)) (bi (Nat.blt k (nat_lit 287)) (bi (Nat.blt k (nat_lit 278)) (bi (Nat.blt k (nat_lit 273)) (bi (Nat.beq k (nat_lit 269)) (true) (false)) (bi (Nat.blt k (nat_lit 274)) (bi (Nat.beq k (nat_lit 273)) (true) (false)) (bi (Nat.beq k (nat_lit 274)) (true) (false)))) (bi (Nat.blt k (nat_lit 281)) (bi (Nat.beq k (nat_lit 278)) (true) (false)) (bi (Nat.blt k (nat_lit 282)) (bi (Nat.beq k (nat_lit 281)) (true) (false)) (bi (Nat.beq k (nat_lit 282)) (true) (false))))) (bi (Nat.blt k (nat_lit 299)) (bi (Nat.blt k (nat_lit 295)) (bi (Nat.beq k (nat_lit 287)) (true) (false)) (bi (Nat.blt k (nat_lit 298)) (bi (Nat.beq k (nat_lit 295)) (true) (false)) (bi (Nat.beq k (nat_lit 298)) (true) (false)))) (bi (Nat.blt k (nat_lit 301)) (bi (Nat.blt k (nat_lit 300)) (bi (Nat.beq k (nat_lit 299)) (true) (false)) (bi (Nat.beq k (nat_lit 300)) (true) (false))) (bi (Nat.blt k (nat_lit 302)) (bi (Nat.beq k (nat_lit 301)) (true) (false)) (bi (Nat.beq k (nat_lit 302)) (true) (false)))))) (bi (Nat.blt k (nat_lit 316)) (bi (Nat.blt k (nat_lit 311)) (bi (Nat.blt k (nat_lit 309)) (bi (Nat.beq k (nat_lit 308)) (true) (false)) (bi (Nat.blt k (nat_lit 310)) (bi (Nat.beq k (nat_lit 309)) (true) (false)) (bi (Nat.beq k (nat_lit 310)) (true) (false)))) (bi (Nat.blt k (nat_lit 314)) (bi (Nat.blt k (nat_lit 313)) (bi (Nat.beq k (nat_lit 311)) (true) (false)) (bi (Nat.beq k (nat_lit 313)) (true) (false))) (bi (Nat.blt k (nat_lit 315)) (bi (Nat.beq k (nat_lit 314)) (true) (false)) (bi (Nat.beq k (nat_lit 315)) (true) (false))))) (bi (Nat.blt k (nat_lit 319)) (bi (Nat.blt k (nat_lit 317)) (bi (Nat.beq k (nat_lit 316)) (true) (false)) (bi (Nat.blt k (nat_lit 318)) (bi (Nat.beq k (nat_lit 317)) (true) (false)) (bi (Nat.beq k (nat_lit 318)) (true) (false)))) (bi (Nat.blt k (nat_lit 321)) (bi (Nat.blt k (nat_lit 320)) (bi (Nat.beq k (nat_lit 319)) (true) (false)) (bi (Nat.beq k (nat_lit 320)) (true) (false))) (bi (Nat.blt k (nat_lit 322)) (bi (Nat.beq k (nat_lit 321)) (true) (false)) (bi (Nat.beq k (nat_lit 322)) (true) (false))))))) (bi (Nat.blt k (nat_lit 348)) (bi (Nat.blt k (nat_lit 337)) (bi (Nat.blt k (nat_lit 333)) (bi (Nat.blt k (nat_lit 328)) (bi (Nat.beq k (nat_lit 326)) (true) (false)) (bi (Nat.blt k (nat_lit 329)) (bi (Nat.beq k (nat_lit 328)) (true) (false)) (bi (Nat.beq k (nat_lit 329)) (true) (false)))) (bi (Nat.blt k (nat_lit 334)) (bi (Nat.beq k (nat_lit 333)) (true) (false)) (bi (Nat.blt k (nat_lit 335)) (bi (Nat.beq k (nat_lit 334)) (true) (false)) (bi (Nat.beq k (nat_lit 335)) (true) (false))))) (bi (Nat.blt k (nat_lit 341)) (bi (Nat.blt k (nat_lit 339)) (bi (Nat.beq k (nat_lit 337)) (true) (false)) (bi (Nat.blt k (nat_lit 340)) (bi (Nat.beq k (nat_lit 339)) (true) (false)) (bi (Nat.beq k (nat_lit 340)) (true) (false)))) (bi (Nat.blt k (nat_lit 344)) (bi (Nat.blt k (nat_lit 342)) (bi (Nat.beq k (nat_lit 341)) (true) (false)) (bi (Nat.beq k (nat_lit 342)) (true) (false))) (bi (Nat.blt k (nat_lit 347)) (bi (Nat.beq k (nat_lit 344)) (true) (false)) (bi (Nat.beq k (nat_lit 347)) (true) (false)))))) (bi (Nat.blt k (nat_lit 361)) (bi (Nat.blt k (nat_lit 351)) (bi (Nat.blt k (nat_lit 349)) (bi (Nat.beq k (nat_lit 348)) (true) (false)) (bi (Nat.blt k (nat_lit 350)) (bi (Nat.beq k (nat_lit 349)) (true) (false)) (bi (Nat.beq k (nat_lit 350)) (true) (false)))) (bi (Nat.blt k (nat_lit 354)) (bi (Nat.blt k (nat_lit 353)) (bi (Nat.beq k (nat_lit 351)) (true) (false)) (bi (Nat.beq k (nat_lit 353)) (true) (false))) (bi (Nat.blt k (nat_lit 359)) (bi (Nat.beq k (nat_lit 354)) (true) (false)) (bi (Nat.beq k (nat_lit 359)) (true) (false))))) (bi (Nat.blt k (nat_lit 365)) (bi (Nat.blt k (nat_lit 362)) (bi (Nat.beq k (nat_lit 361)) (true) (false)) (bi (Nat.blt k (nat_lit 363)) (bi (Nat.beq k (nat_lit 362)) (true) (false)) (bi (Nat.beq k (nat_lit 363)) (true) (false)))) (bi (Nat.blt k (nat_lit 368)) (bi (Nat.blt k (nat_lit 367)) (bi (Nat.beq k (nat_lit 365)) (true) (false)) (bi (Nat.beq k (nat_lit 367)) (true) (false))) (bi (Nat.blt k (nat_lit 369)) (bi (Nat.beq k (nat_lit 368)) (true) (false)) (bi (Nat.beq k (nat_lit 369)) (true) (false)))))))) (bi (Nat.blt k (nat_lit 411)) (bi (Nat.blt k (nat_lit 388)) (bi (Nat.blt k (nat_lit 379)) (bi (Nat.blt k (nat_lit 374)) (bi (Nat.blt k (nat_lit 371)) (bi (Nat.beq k (nat_lit 370)) (true) (false)) (bi (Nat.blt k (nat_lit 372)) (bi (Nat.beq k (nat_lit 371)) (true) (false)) (bi (Nat.beq k (nat_lit 372)) (true) (false)))) (bi (Nat.blt k (nat_lit 375)) (bi (Nat.beq k (nat_lit 374)) (true) (false)) (bi (Nat.blt k (nat_lit 376)) (bi (Nat.beq k (nat_lit 375)) (true) (false)) (bi (Nat.beq k (nat_lit 376)) (true) (false))))) (bi (Nat.blt k (nat_lit 383)) (bi (Nat.blt k (nat_lit 381)) (bi (Nat.beq k (nat_lit 379)) (true) (false)) (bi (Nat.blt k (nat_lit 382)) (bi (Nat.beq k (nat_lit 381)) (true) (false)) (bi (Nat.beq k (nat_lit 382)) (true) (false)))) (bi (Nat.blt k (nat_lit 385)) (bi (Nat.blt k (nat_lit 384)) (bi (Nat.beq k (nat_lit 383)) (true) (false)) (bi (Nat.beq k (nat_lit 384)) (true) (false))) (bi (Nat.blt k (nat_lit 386)) (bi (Nat.beq k (nat_lit 385)) (true) (false)) (bi (Nat.beq k (nat_lit 386)) (true) (false)))))) (bi (Nat.blt k (nat_lit 402)) (bi (Nat.blt k (nat_lit 393)) (bi (Nat.blt k (nat_lit 391)) (bi (Nat.beq k (nat_lit 388)) (true) (false)) (bi (Nat.blt k (nat_lit 392)) (bi (Nat.beq k (nat_lit 391)) (true) (false)) (bi (Nat.beq k (nat_lit 392)) (true) (false)))) (bi (Nat.blt k (nat_lit 399)) (bi (Nat.blt k (nat_lit 397)) (bi (Nat.beq k (nat_lit 393)) (true) (false)) (bi (Nat.beq k (nat_lit 397)) (true) (false))) (bi (Nat.blt k (nat_lit 401)) (bi (Nat.beq k (nat_lit 399)) (true) (false)) (bi (Nat.beq k (nat_lit 401)) (true) (false))))) (bi (Nat.blt k (nat_lit 407)) (bi (Nat.blt k (nat_lit 403)) (bi (Nat.beq k (nat_lit 402)) (true) (false)) (bi (Nat.blt k (nat_lit 404)) (bi (Nat.beq k (nat_lit 403)) (true) (false)) (bi (Nat.beq k (nat_lit 404)) (true) (false)))) (bi (Nat.blt k (nat_lit 409)) (bi (Nat.blt k (nat_lit 408)) (bi (Nat.beq k (nat_lit 407)) (true) (false)) (bi (Nat.beq k (nat_lit 408)) (true) (false))) (bi (Nat.blt k (nat_lit 410)) (bi (Nat.beq k (nat_lit 409)) (true) (false)) (bi (Nat.beq k (nat_lit 410)) (true) (false))))))) (bi (Nat.blt k (nat_lit 434)) (bi (Nat.blt k (nat_lit 417)) (bi (Nat.blt k (nat_lit 414)) (bi (Nat.blt k (nat_lit 412)) (bi (Nat.beq k (nat_lit 411)) (true) (false)) (bi (Nat.blt k (nat_lit 413)) (bi (Nat.beq k (nat_lit 412)) (true) (false)) (bi (Nat.beq k (nat_lit 413)) (true) (false)))) (bi (Nat.blt k (nat_lit 415)) (bi (Nat.beq k (nat_lit 414)) (true) (false)) (bi (Nat.blt k (nat_lit 416)) (bi (Nat.beq k (nat_lit 415)) (true) (false)) (bi (Nat.beq k (nat_lit 416)) (true) (false))))) (bi (Nat.blt k (nat_lit 420)) (bi (Nat.blt k (nat_lit 418)) (bi (Nat.beq k (nat_lit 417)) (true) (false)) (bi (Nat.blt k (nat_lit 419)) (bi (Nat.beq k (nat_lit 418)) (true) (false)) (bi (Nat.beq k (nat_lit 419)) (true) (false)))) (bi (Nat.blt k (nat_lit 430)) (bi (Nat.blt k (nat_lit 421)) (bi (Nat.beq k (nat_lit 420)) (true) (false)) (bi (Nat.beq k (nat_lit 421)) (true) (false))) (bi (Nat.blt k (nat_lit 433)) (bi (Nat.beq k (nat_lit 430)) (true) (false)) (bi (Nat.beq k (nat_lit 433)) (true) (false)))))) (bi (Nat.blt k (nat_lit 441)) (bi (Nat.blt k (nat_lit 437)) (bi (Nat.blt k (nat_lit 435)) (bi (Nat.beq k (nat_lit 434)) (true) (false)) (bi (Nat.blt k (nat_lit 436)) (bi (Nat.beq k (nat_lit 435)) (true) (false)) (bi (Nat.beq k (nat_lit 436)) (true) (false)))) (bi (Nat.blt k (nat_lit 439)) (bi (Nat.blt k (nat_lit 438)) (bi (Nat.beq k (nat_lit 437)) (true) (false)) (bi (Nat.beq k (nat_lit 438)) (true) (false))) (bi (Nat.blt k (nat_lit 440)) (bi (Nat.beq k (nat_lit 439)) (true) (false)) (bi (Nat.beq k (nat_lit 440)) (true) (false))))) (bi (Nat.blt k (nat_lit 444)) (bi (Nat.blt k (nat_lit 442)) (bi (Nat.beq k (nat_lit 441)) (true) (false)) (bi (Nat.blt k (nat_lit 443)) (bi (Nat.beq k (nat_lit 442)) (true) (false)) (bi (Nat.beq k (nat_lit 443)) (true) (false)))) (bi (Nat.blt k (nat_lit 446)) (bi (Nat.blt k (nat_lit 445)) (bi (Nat.beq k (nat_lit 444)) (true) (false)) (bi (Nat.beq k (nat_lit 445)) (true) (false))) (bi (Nat.blt k (nat_lit 447)) (bi (Nat.beq k (nat_lit 446)) (true) (false)) (bi (Nat.beq k (nat_lit 447)) (true) (false)))))))))
noncomputable def cxV (k : Nat) : Bool := bi (Nat.beq k (nat_lit 65)) (true) (false)
noncomputable def cx : Cx := ⟨Tryz.prog, cxG, cxX, cxP, cxV⟩
theorem cx_g {w : World} (hG : Gl w) : Gok cxG w := by
  intro g cs h
  unfold cxG at h
  rw [aae] at h
  split at h
  · rename_i hk
    rw [aad] at hk
    have hk : g = 0 := hk
    subst hk
    cases h
    obtain ⟨t, f, e⟩ := hG.specials
    exact ⟨okL_ok (show okL 0 cg0 = true by kernel_rfl), t, f, fun E => by rw [e]; kernel_rfl⟩
  rw [aae] at h
  split at h
  · rename_i hk
    rw [aad] at hk
    have hk : g = 2 := hk
    subst hk
    cases h
    obtain ⟨t, f, e⟩ := hG.classes
    exact ⟨okL_ok (show okL 0 cg2 = true by kernel_rfl), t, f, fun E => by rw [e]; kernel_rfl⟩
  rw [aae] at h
  split at h
  · rename_i hk
    rw [aad] at hk
    have hk : g = 5 := hk
    subst hk
    cases h
    obtain ⟨t, f, e⟩ := hG.kinds
    exact ⟨okL_ok (show okL 0 cg5 = true by kernel_rfl), t, f, fun E => by rw [e]; kernel_rfl⟩
  rw [aae] at h
  split at h
  · rename_i hk
    rw [aad] at hk
    have hk : g = 9 := hk
    subst hk
    cases h
    obtain ⟨t, f, e⟩ := hG.rounds
    exact ⟨okL_ok (show okL 0 cg9 = true by kernel_rfl), t, f, fun E => by rw [e]; kernel_rfl⟩
  cases h
theorem cx_names : (Tryz.prog.funcs.all fun fn => !(fn.name == "runtime.NumGoroutine")) = true := by kernel_rfl
theorem cx_ok : Cok cx Gl where
  gp := fun h hp => h.hp0 hp
  g := cx_g
  ng := fun f fn h => by
    have h1 := Array.all_eq_true'.1 cx_names fn (Array.mem_of_getElem? h)
    simpa using h1
  mo := by kernel_rfl
  ov := fun k h => by
    have h : cxV k = true := h
    unfold cxV at h
    rw [aae] at h
    split at h
    · rename_i hk
      rw [aad] at hk
      have hk : k = 65 := hk
      subst hk
      exact ⟨Tryz.f65, 22, 4, 62, 2, Tryz.func65, by kernel_rfl, by kernel_rfl, by kernel_rfl, Tryz.underlying22, by kernel_rfl⟩
    cases h
theorem ent_46 : Go.Wk.Enters cx.P 46 := ⟨Tryz.f46, _, Tryz.func46, rfl, by kernel_rfl⟩
theorem cx46_ok (hC : Cok cx Gl) : aam cx Gl cx46 46 := xi_ok hC ent_46 fun a v h => by
  exact ⟨cv_pl h, fun E w hG hb => CR.mono (sh_Itoa a w hb hG) fun V w' hv => ⟨hv.1.trans (cv_ok h E 0).1.symm, hv.2⟩⟩
theorem ent_67 : Go.Wk.Enters cx.P 67 := ⟨Tryz.f67, _, Tryz.func67, rfl, by kernel_rfl⟩
theorem cx67_ok (hC : Cok cx Gl) : aam cx Gl cx67 67 := xsb_ok hC ent_67 fun a b v h => by
  exact ⟨cv_pl h, fun E w hG => CR.mono (sh_IndexByte a b w) fun V w' hv => ⟨hv.1.trans (by rw [(cv_ok h E 0).1, beqn]), hv.2⟩⟩
theorem ent_77 : Go.Wk.Enters cx.P 77 := ⟨Tryz.f77, _, Tryz.func77, rfl, by kernel_rfl⟩
theorem cx77_ok (hC : Cok cx Gl) : aam cx Gl cx77 77 := xsb_ok hC ent_77 fun a b v h => by
  obtain ⟨h1, h⟩ := aab h; rw [aac, aaf] at h1; exact ⟨cv_pl h, fun E w hG => CR.mono (sh_LastIndexByte a b w h1) fun V w' hv => ⟨hv.1.trans (by rw [(cv_ok h E 0).1, beqn]), hv.2⟩⟩
theorem ent_125 : Go.Wk.Enters cx.P 125 := ⟨Tryz.f125, _, Tryz.func125, rfl, by kernel_rfl⟩
theorem cx125_ok (hC : Cok cx Gl) : aam cx Gl cx125 125 := xs2_ok hC ent_125 fun a b v h => by
  obtain ⟨h1, h⟩ := aab h; rw [aac, aaf] at h1; obtain ⟨h2, h⟩ := aab h; rw [aac, aaf] at h2; obtain ⟨h3, h⟩ := aab h; exact ⟨cv_pl h, fun E w hG => CR.mono (sh_Trim a b w h1 ⟨h2, h3⟩) fun V w' hv => ⟨hv.1.trans (cv_ok h E 0).1.symm, hv.2⟩⟩
theorem ent_134 : Go.Wk.Enters cx.P 134 := ⟨Tryz.f134, _, Tryz.func134, rfl, by kernel_rfl⟩
theorem cx134_ok (hC : Cok cx Gl) : aam cx Gl cx134 134 := xs2_ok hC ent_134 fun a b v h => by
  exact ⟨cv_pl h, fun E w hG => CR.mono (sh_TrimPrefix a b w) fun V w' hv => ⟨hv.1.trans (cv_ok h E 0).1.symm, hv.2⟩⟩
theorem ent_136 : Go.Wk.Enters cx.P 136 := ⟨Tryz.f136, _, Tryz.func136, rfl, by kernel_rfl⟩
theorem cx136_ok (hC : Cok cx Gl) : aam cx Gl cx136 136 := xs2_ok hC ent_136 fun a b v h => by
  obtain ⟨h1, h⟩ := aab h; rw [aac, aaf] at h1; obtain ⟨h2, h⟩ := aab h; rw [aac, aaf] at h2; obtain ⟨h3, h⟩ := aab h; obtain ⟨h4, h⟩ := aab h; simp only [Bool.or_eq_true, aac, aaf] at h4; exact ⟨cv_pl h, fun E w hG => CR.mono (sh_IndexAny a b w ⟨h1, h2, h3, h4⟩) fun V w' hv => ⟨hv.1.trans (cv_ok h E 0).1.symm, hv.2⟩⟩
theorem ent_248 : Go.Wk.Enters cx.P 248 := ⟨Tryz.f248, _, Tryz.func248, rfl, by kernel_rfl⟩
theorem cx248_ok (hC : Cok cx Gl) : aam cx Gl cx248 248 := xs2_ok hC ent_248 fun a b v h => by
  obtain ⟨h1, h⟩ := aab h; rw [aac, aaf] at h1; exact ⟨(cvT_ok h (fun _ => (0, 0))).2, fun E w hG => CR.mono (sh_Cut a b w h1 hG) fun V w' hv => ⟨hv.1.trans (cvT_ok h E).1.symm, hv.2⟩⟩
theorem ent_250 : Go.Wk.Enters cx.P 250 := ⟨Tryz.f250, _, Tryz.func250, rfl, by kernel_rfl⟩
theorem cx250_ok (hC : Cok cx Gl) : aam cx Gl cx250 250 := xjoin_ok hC ent_250 fun t w a n cap xs h1 h2 h3 h4 => sh_Join t w a n cap xs h1 h2 h3 h4
theorem ent_251 : Go.Wk.Enters cx.P 251 := ⟨Tryz.f251, _, Tryz.func251, rfl, by kernel_rfl⟩
theorem cx251_ok (hC : Cok cx Gl) : aam cx Gl cx251 251 := xsplit_ok hC ent_251 fun s c w hG h => sh_Split s c w h hG
theorem ent_259 : Go.Wk.Enters cx.P 259 := ⟨Tryz.f259, _, Tryz.func259, rfl, by kernel_rfl⟩
theorem cx259_ok (hC : Cok cx Gl) : aam cx Gl cx259 259 := xs2_ok hC ent_259 fun a b v h => by
  obtain ⟨h1, h⟩ := aab h; rw [aac, aaf] at h1; exact ⟨cv_pl h, fun E w hG => CR.mono (sh_Contains a b w h1 hG) fun V w' hv => ⟨hv.1.trans (cv_ok h E 0).1.symm, hv.2⟩⟩
theorem ent_265 : Go.Wk.Enters cx.P 265 := ⟨Tryz.f265, _, Tryz.func265, rfl, by kernel_rfl⟩
theorem cx265_ok (hC : Cok cx Gl) : aam cx Gl cx265 265 := xcc_ok hC ent_265 fun b z s w h => sh_copyCheck b z s w h
theorem ent_329 : Go.Wk.Enters cx.P 329 := ⟨Tryz.f329, _, Tryz.func329, rfl, by kernel_rfl⟩
theorem cx329_ok (hC : Cok cx Gl) : aam cx Gl cx329 329 := xs2_ok hC ent_329 fun a b v h => by
  obtain ⟨h1, h⟩ := aab h; rw [aac, aaf] at h1; obtain ⟨h2, h⟩ := aab h; rw [aac, aaf] at h2; obtain ⟨h3, h⟩ := aab h; exact ⟨cv_pl h, fun E w hG => CR.mono (sh_TrimLeft a b w h1 ⟨h2, h3⟩) fun V w' hv => ⟨hv.1.trans (cv_ok h E 0).1.symm, hv.2⟩⟩
theorem ent_335 : Go.Wk.Enters cx.P 335 := ⟨Tryz.f335, _, Tryz.func335, rfl, by kernel_rfl⟩
theorem cx335_ok (hC : Cok cx Gl) : aam cx Gl cx335 335 := xs2_ok hC ent_335 fun a b v h => by
  obtain ⟨h1, h⟩ := aab h; rw [aac, aaf] at h1; exact ⟨cv_pl h, fun E w hG => CR.mono (sh_Index a b w h1 hG) fun V w' hv => ⟨hv.1.trans (cv_ok h E 0).1.symm, hv.2⟩⟩
theorem ent_337 : Go.Wk.Enters cx.P 337 := ⟨Tryz.f337, _, Tryz.func337, rfl, by kernel_rfl⟩
theorem cx337_ok (hC : Cok cx Gl) : aam cx Gl cx337 337 := xs2_ok hC ent_337 fun a b v h => by
  exact ⟨(cvT_ok h (fun _ => (0, 0))).2, fun E w hG => CR.mono (sh_CutPrefix a b w) fun V w' hv => ⟨hv.1.trans (cvT_ok h E).1.symm, hv.2⟩⟩
theorem ent_382 : Go.Wk.Enters cx.P 382 := ⟨Tryz.f382, _, Tryz.func382, rfl, by kernel_rfl⟩
theorem cx382_ok (hC : Cok cx Gl) : aam cx Gl cx382 382 := xs2_ok hC ent_382 fun a b v h => by
  obtain ⟨h1, h⟩ := aab h; rw [aac, aaf] at h1; obtain ⟨h2, h⟩ := aab h; rw [aac, aaf] at h2; obtain ⟨h3, h⟩ := aab h; exact ⟨cv_pl h, fun E w hG => CR.mono (sh_TrimRight a b w h1 ⟨h2, h3⟩) fun V w' hv => ⟨hv.1.trans (cv_ok h E 0).1.symm, hv.2⟩⟩
theorem cx_x : Xok cx Gl := by
  intro k f h
  have h : cxX k = some f := h
  unfold cxX at h
  rw [aae] at h
  split at h
  · rw [aae] at h
    split at h
    · rw [aae] at h
      split at h
      · rw [aae] at h
        split at h
        · rename_i hk
          rw [aad] at hk
          have hk : k = 46 := hk
          subst hk
          cases h
          exact cx46_ok cx_ok
        · cases h
      · rw [aae] at h
        split at h
        · rw [aae] at h
          split at h
          · rename_i hk
            rw [aad] at hk
            have hk : k = 67 := hk
            subst hk
            cases h
            exact cx67_ok cx_ok
          · cases h
        · rw [aae] at h
          split at h
          · rename_i hk
            rw [aad] at hk
            have hk : k = 77 := hk
            subst hk
            cases h
            exact cx77_ok cx_ok
          · cases h
    · rw [aae] at h
      split at h
      · rw [aae] at h
        split at h
        · rw [aae] at h
          split at h
          · rename_i hk
            rw [aad] at hk
            have hk : k = 125 := hk
            subst hk
            cases h
            exact cx125_ok cx_ok
          · cases h
        · rw [aae] at h
          split at h
          · rename_i hk
            rw [aad] at hk
            have hk : k = 134 := hk
            subst hk
            cases h
            exact cx134_ok cx_ok
          · cases h
      · rw [aae] at h
        split at h
        · rw [aae] at h
          split at h
          · rename_i hk
            rw [aad] at hk
            have hk : k = 136 := hk
            subst hk
            cases h
            exact cx136_ok cx_ok
          · cases h
        · rw [aae] at h
          split at h
          · rename_i hk
            rw [aad] at hk
            have hk : k = 248 := hk
            subst hk
            cases h
            exact cx248_ok cx_ok
          · cases h
  · rw [aae] at h
    split at h
    · rw [aae] at h
      split at h
      · rw [aae] at h
        split at h
        · rw [aae] at h
          split at h
          · rename_i hk
            rw [aad] at hk
            have hk : k = 250 := hk
            subst hk
            cases h
            exact cx250_ok cx_ok
          · cases h
        · rw [aae] at h
          split at h
          · rename_i hk
            rw [aad] at hk
            have hk : k = 251 := hk
            subst hk
            cases h
            exact cx251_ok cx_ok
          · cases h
      · rw [aae] at h
        split at h
        · rw [aae] at h
          split at h
          · rename_i hk
            rw [aad] at hk
            have hk : k = 259 := hk
            subst hk
            cases h
            exact cx259_ok cx_ok
          · cases h
        · rw [aae] at h
          split at h
          · rename_i hk
            rw [aad] at hk
            have hk : k = 265 := hk
            subst hk
            cases h
            exact cx265_ok cx_ok
          · cases h
    · rw [aae] at h
      split at h
      · rw [aae] at h
        split at h
        · rw [aae] at h
          split at h
          · rename_i hk
            rw [aad] at hk
            have hk : k = 329 := hk
            subst hk
            cases h
            exact cx329_ok cx_ok
          · cases h
        · rw [aae] at h
          split at h
          · rename_i hk
            rw [aad] at hk
            have hk : k = 335 := hk
            subst hk
            cases h
            exact cx335_ok cx_ok
          · cases h
      · rw [aae] at h
        split at h
        · rw [aae] at h
          split at h
          · rename_i hk
            rw [aad] at hk
            have hk : k = 337 := hk
            subst hk
            cases h
            exact cx337_ok cx_ok
          · cases h
        · rw [aae] at h
          split at h
          · rename_i hk
            rw [aad] at hk
            have hk : k = 382 := hk
            subst hk
            cases h
            exact cx382_ok cx_ok
          · cases h
theorem cxx : Cok cx Gl ∧ Xok cx Gl := ⟨cx_ok, cx_x⟩
theorem closedM {C : Cx} (hC : Cok C Gl ∧ Xok C Gl) (hP : C.P = Tryz.prog) {n k : Nat} (h : isT ((lev C n).call k [] H0) = true) {w : World} (hG : Gl w) : Go.Wk.Enters Tryz.prog k ∧ CR Tryz.prog k [] w fun V w' => V = .bool true ∧ Hp w [] [] w' :=
  let ⟨H', h⟩ := isT_ok h
  hP ▸ run_says hC.1 hC.2 h rfl rfl hG (fun _ => (0, 0))
theorem closed {n k : Nat} (h : isT ((lev cx n).call k [] H0) = true) {w : World} (hG : Gl w) : Go.Wk.Enters Tryz.prog k ∧ CR Tryz.prog k [] w fun V w' => V = .bool true ∧ Hp w [] [] w' :=
  let ⟨H', h⟩ := isT_ok h
  run_says cx_ok cx_x h rfl rfl hG (fun _ => (0, 0))
end Go.Proofs
