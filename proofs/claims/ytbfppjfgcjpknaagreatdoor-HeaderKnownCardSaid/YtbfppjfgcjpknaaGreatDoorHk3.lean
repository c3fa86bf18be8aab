/-
  The law HeaderKnown (part 3 of 4).
-/
import Derived.Test.YtbfppjfgcjpknaaGreatDoorHk2
import Derived.Shelf.Strings.Builder1
import Derived.Shelf.Strings.Builder2
import Derived.Shelf.Strings.OnBuilder
import Derived.Shelf.Strings.Trim
import Derived.Shelf.Small.Utf8
import Derived.Shelf.Small.Strs
import Derived.Shelf.Small.Wraps
import Derived.Shelf.Strings.BuilderF
import Derived.Shelf.Strings.BuilderK
import Derived.Shelf.Utf8.RuneCount
import Derived.Shelf.Strings.Builder2Cap
import Derived.Shelf.Strconv.Itoa0
import Derived.Shelf.Strconv.Itoa1
import Derived.Shelf.LaysM
import Derived.Shelf.Strconv.Itoa2
import Derived.Shelf.Strconv.Itoa3
import Derived.Shelf.Strings.Search1
import Derived.Shelf.Strings.Search2
import Derived.Shelf.Strings.Search3
import Derived.Shelf.Strings.Cut
import Derived.Shelf.Strings.Count
import Derived.Shelf.Strings.Shaped
import Derived.Shelf.Strings.LastIndex
import Derived.Shelf.Strings.Prefix
import Derived.Shelf.Strings.Split
import Derived.Shelf.Strings.SplitShaped
import Derived.Shelf.Unicode.Decode
import Derived.Shelf.Strings.Runes
import Derived.Shelf.Strings.RuneCount
import Derived.Shelf.Strings.IndexAny
import Derived.Shelf.Strings.AsciiSet
import Derived.Shelf.Strings.IndexAnyAll
import Derived.Shelf.Strings.Explode
import Derived.Shelf.Unicode.DecodeSlow
import Derived.Shelf.Unicode.DecodeAny
import Derived.Shelf.Unicode.DecodeLast
import Derived.Shelf.Strings.BuilderCap
import Derived.Ground.PaProg
import Derived.Shelf.Path.Small
import Derived.Test.YtbfppjfgcjpknaaGreatDoorProg
import Derived.Shelf.Strings.SlTrimAscii
set_option linter.constructorNameAsVariable false
namespace Go.Proofs
open Go.Shelf
def Tryz.lays156_ren : Go.Shelf.Ren := ⟨fun | 156 => 80 | 165 => 139 | 166 => 126 | 169 => 127 | 240 => 184 | 241 => 191 | 276 => 217 | 277 => 224 | n => n, fun | 31 => 54 | 9 => 9 | 3 => 3 | 4 => 4 | 0 => 0 | 20 => 20 | 72 => 131 | 76 => 135 | 70 => 129 | 37 => 92 | 75 => 134 | 127 => 178 | 164 => 201 | 5 => 5 | 80 => 137 | n => n, fun | n => n⟩
theorem Tryz.lays156 : Go.Proofs.Lays.n156 Tryz.prog Tryz.lays156_ren := {
  mixed := by kernel_rfl
  f156 := Tryz.func80.trans (congrArg some krf)
  f165 := Tryz.func139.trans (congrArg some krf)
  f166 := Tryz.func126.trans (congrArg some krf)
  f169 := Tryz.func127.trans (congrArg some krf)
  f240 := Tryz.func184.trans (congrArg some krf)
  f241 := Tryz.func191.trans (congrArg some krf)
  f276 := Tryz.func217.trans (congrArg some krf)
  f277 := Tryz.func224.trans (congrArg some krf)
  t0 := Tryz.underlying0
  a0 := Tryz.isAgg0
  z0 := Tryz.sizeOf0
  v0 := Tryz.zeroValue0
  t3 := Tryz.underlying3
  a3 := Tryz.isAgg3
  z3 := Tryz.sizeOf3
  v3 := Tryz.zeroValue3
  t4 := Tryz.underlying4
  a4 := Tryz.isAgg4
  z4 := Tryz.sizeOf4
  v4 := Tryz.zeroValue4
  t9 := Tryz.underlying9
  a9 := Tryz.isAgg9
  z9 := Tryz.sizeOf9
  v9 := Tryz.zeroValue9
  t20 := Tryz.underlying20
  a20 := Tryz.isAgg20
  z20 := Tryz.sizeOf20
  v20 := Tryz.zeroValue20
  t31 := Tryz.underlying54
  a31 := Tryz.isAgg54
  z31 := Tryz.sizeOf54
  v31 := Tryz.zeroValue54
  t37 := Tryz.underlying92
  a37 := Tryz.isAgg92
  z37 := Tryz.sizeOf92
  v37 := Tryz.zeroValue92
  t70 := Tryz.underlying129
  a70 := Tryz.isAgg129
  z70 := Tryz.sizeOf129
  v70 := Tryz.zeroValue129
  t72 := Tryz.underlying131
  a72 := Tryz.isAgg131
  z72 := Tryz.sizeOf131
  v72 := Tryz.zeroValue131
  t75 := Tryz.underlying134
  a75 := Tryz.isAgg134
  z75 := Tryz.sizeOf134
  v75 := Tryz.zeroValue134
  t76 := Tryz.underlying135
  a76 := Tryz.isAgg135
  z76 := Tryz.sizeOf135
  v76 := Tryz.zeroValue135
  t127 := Tryz.underlying178
  a127 := Tryz.isAgg178
  z127 := Tryz.sizeOf178
  v127 := Tryz.zeroValue178
  t164 := Tryz.underlying201
  a164 := Tryz.isAgg201
  z164 := Tryz.sizeOf201
  v164 := Tryz.zeroValue201 }
theorem Tryz.Builder_Extra_156 : Builder.Extra Tryz.prog Tryz.lays156_ren := {
  sizeBuilder := by kernel_rfl
  liesBuilder := by kernel_rfl
  t5 := Tryz.underlying5
  a5 := Tryz.isAgg5
  z5 := Tryz.sizeOf5
  v5 := Tryz.zeroValue5
  infoByte := by kernel_rfl
  cellsByte := by kernel_rfl
  sizeByte := by kernel_rfl
  neB5 := by decide }
open Go.RowKit in
theorem Tryz.strings_Join_none (a : Option Addr) (c : Nat) (sep : ByteArray) (w : World) :
    Calls Tryz.prog 80 #[.slice a 0 c, .string sep] w fun e w' => e = .returned (.string ⟨#[]⟩) ∧ w' = w := Any.strings_Join_none Tryz.lays156 Tryz.Builder_Extra_156 a c sep w
open Go.RowKit in
theorem Tryz.strings_Join (bk o c : Nat) (xs : List ByteArray) (sep : ByteArray) (w : World) (hcells : ∀ (j : Nat) x, xs[j]? = some x → w.cell? ⟨bk, o + j, none⟩ = some (.string x)) (hbk : bk < w.heap.size) (hN : xs.length ≤ 140737488355328) (hcap : xs.length ≤ c) (hlen : (Lib.join (xs.map (·.data.toList)) sep.data.toList).length ≤ 140737488355328) :
    Calls Tryz.prog 80 #[.slice (some ⟨bk, o, none⟩) xs.length c, .string sep] w fun e w' => e = .returned (.string ⟨(Lib.join (xs.map (·.data.toList)) sep.data.toList).toArray⟩) ∧ Below w.heap.size w w' := Any.strings_Join Tryz.lays156 Tryz.Builder_Extra_156 bk o c xs sep w hcells hbk hN hcap hlen
def Tryz.lays161_ren : Go.Shelf.Ren := ⟨fun | 161 => 193 | 231 => 165 | 227 => 107 | 233 => 167 | 235 => 169 | 228 => 108 | 197 => 210 | 151 => 211 | 260 => 243 | 152 => 105 | 137 => 146 | 119 => 171 | 224 => 172 | 225 => 173 | 217 => 197 | 266 => 228 | n => n, fun | 9 => 9 | 4 => 4 | 3 => 3 | 5 => 5 | 117 => 113 | 116 => 112 | 0 => 0 | 124 => 169 | 105 => 194 | 21 => 21 | 119 => 237 | 46 => 172 | 139 => 240 | 138 => 239 | n => n, fun | 3 => 5 | 4 => 6 | n => n⟩
theorem Tryz.lays161 : Go.Proofs.Lays.n161 Tryz.prog Tryz.lays161_ren := {
  mixed := by kernel_rfl
  f119 := Tryz.func171.trans (congrArg some krf)
  f137 := Tryz.func146.trans (congrArg some krf)
  f151 := Tryz.func211.trans (congrArg some krf)
  f152 := Tryz.func105.trans (congrArg some krf)
  f161 := Tryz.func193.trans (congrArg some krf)
  f197 := Tryz.func210.trans (congrArg some krf)
  f217 := Tryz.func197.trans (congrArg some krf)
  f224 := Tryz.func172.trans (congrArg some krf)
  f225 := Tryz.func173.trans (congrArg some krf)
  f227 := Tryz.func107.trans (congrArg some krf)
  f228 := Tryz.func108.trans (congrArg some krf)
  f231 := Tryz.func165.trans (congrArg some krf)
  f233 := Tryz.func167.trans (congrArg some krf)
  f235 := Tryz.func169.trans (congrArg some krf)
  f260 := Tryz.func243.trans (congrArg some krf)
  f266 := Tryz.func228.trans (congrArg some krf)
  t0 := Tryz.underlying0
  a0 := Tryz.isAgg0
  z0 := Tryz.sizeOf0
  v0 := Tryz.zeroValue0
  t3 := Tryz.underlying3
  a3 := Tryz.isAgg3
  z3 := Tryz.sizeOf3
  v3 := Tryz.zeroValue3
  t4 := Tryz.underlying4
  a4 := Tryz.isAgg4
  z4 := Tryz.sizeOf4
  v4 := Tryz.zeroValue4
  t5 := Tryz.underlying5
  a5 := Tryz.isAgg5
  z5 := Tryz.sizeOf5
  v5 := Tryz.zeroValue5
  t9 := Tryz.underlying9
  a9 := Tryz.isAgg9
  z9 := Tryz.sizeOf9
  v9 := Tryz.zeroValue9
  t21 := Tryz.underlying21
  a21 := Tryz.isAgg21
  z21 := Tryz.sizeOf21
  v21 := Tryz.zeroValue21
  t46 := Tryz.underlying172
  a46 := Tryz.isAgg172
  z46 := Tryz.sizeOf172
  v46 := Tryz.zeroValue172
  t105 := Tryz.underlying194
  a105 := Tryz.isAgg194
  z105 := Tryz.sizeOf194
  v105 := Tryz.zeroValue194
  t116 := Tryz.underlying112
  a116 := Tryz.isAgg112
  z116 := Tryz.sizeOf112
  t117 := Tryz.underlying113
  a117 := Tryz.isAgg113
  z117 := Tryz.sizeOf113
  v117 := Tryz.zeroValue113
  t119 := Tryz.underlying237
  a119 := Tryz.isAgg237
  z119 := Tryz.sizeOf237
  t124 := Tryz.underlying169
  a124 := Tryz.isAgg169
  z124 := Tryz.sizeOf169
  v124 := Tryz.zeroValue169
  t138 := Tryz.underlying239
  a138 := Tryz.isAgg239
  z138 := Tryz.sizeOf239
  v138 := Tryz.zeroValue239
  t139 := Tryz.underlying240
  a139 := Tryz.isAgg240
  z139 := Tryz.sizeOf240
  v139 := Tryz.zeroValue240
  g3 := by kernel_rfl
  g4 := by kernel_rfl }
def Tryz.lays162_ren : Go.Shelf.Ren := ⟨fun | 162 => 198 | 232 => 166 | 227 => 107 | 234 => 168 | 236 => 170 | 228 => 108 | 271 => 212 | 151 => 211 | 120 => 244 | 197 => 210 | 152 => 105 | 260 => 243 | 137 => 146 | 119 => 171 | 224 => 172 | 225 => 173 | 217 => 197 | 266 => 228 | n => n, fun | 9 => 9 | 4 => 4 | 3 => 3 | 5 => 5 | 117 => 113 | 116 => 112 | 0 => 0 | 124 => 169 | 21 => 21 | 105 => 194 | 46 => 172 | 119 => 237 | 139 => 240 | 138 => 239 | n => n, fun | 3 => 5 | 4 => 6 | n => n⟩
theorem Tryz.lays162 : Go.Proofs.Lays.n162 Tryz.prog Tryz.lays162_ren := {
  mixed := by kernel_rfl
  f119 := Tryz.func171.trans (congrArg some krf)
  f120 := Tryz.func244.trans (congrArg some krf)
  f137 := Tryz.func146.trans (congrArg some krf)
  f151 := Tryz.func211.trans (congrArg some krf)
  f152 := Tryz.func105.trans (congrArg some krf)
  f162 := Tryz.func198.trans (congrArg some krf)
  f197 := Tryz.func210.trans (congrArg some krf)
  f217 := Tryz.func197.trans (congrArg some krf)
  f224 := Tryz.func172.trans (congrArg some krf)
  f225 := Tryz.func173.trans (congrArg some krf)
  f227 := Tryz.func107.trans (congrArg some krf)
  f228 := Tryz.func108.trans (congrArg some krf)
  f232 := Tryz.func166.trans (congrArg some krf)
  f234 := Tryz.func168.trans (congrArg some krf)
  f236 := Tryz.func170.trans (congrArg some krf)
  f260 := Tryz.func243.trans (congrArg some krf)
  f266 := Tryz.func228.trans (congrArg some krf)
  f271 := Tryz.func212.trans (congrArg some krf)
  t0 := Tryz.underlying0
  a0 := Tryz.isAgg0
  z0 := Tryz.sizeOf0
  v0 := Tryz.zeroValue0
  t3 := Tryz.underlying3
  a3 := Tryz.isAgg3
  z3 := Tryz.sizeOf3
  v3 := Tryz.zeroValue3
  t4 := Tryz.underlying4
  a4 := Tryz.isAgg4
  z4 := Tryz.sizeOf4
  v4 := Tryz.zeroValue4
  t5 := Tryz.underlying5
  a5 := Tryz.isAgg5
  z5 := Tryz.sizeOf5
  v5 := Tryz.zeroValue5
  t9 := Tryz.underlying9
  a9 := Tryz.isAgg9
  z9 := Tryz.sizeOf9
  v9 := Tryz.zeroValue9
  t21 := Tryz.underlying21
  a21 := Tryz.isAgg21
  z21 := Tryz.sizeOf21
  v21 := Tryz.zeroValue21
  t46 := Tryz.underlying172
  a46 := Tryz.isAgg172
  z46 := Tryz.sizeOf172
  v46 := Tryz.zeroValue172
  t105 := Tryz.underlying194
  a105 := Tryz.isAgg194
  z105 := Tryz.sizeOf194
  v105 := Tryz.zeroValue194
  t116 := Tryz.underlying112
  a116 := Tryz.isAgg112
  z116 := Tryz.sizeOf112
  t117 := Tryz.underlying113
  a117 := Tryz.isAgg113
  z117 := Tryz.sizeOf113
  v117 := Tryz.zeroValue113
  t119 := Tryz.underlying237
  a119 := Tryz.isAgg237
  z119 := Tryz.sizeOf237
  t124 := Tryz.underlying169
  a124 := Tryz.isAgg169
  z124 := Tryz.sizeOf169
  v124 := Tryz.zeroValue169
  t138 := Tryz.underlying239
  a138 := Tryz.isAgg239
  z138 := Tryz.sizeOf239
  v138 := Tryz.zeroValue239
  t139 := Tryz.underlying240
  a139 := Tryz.isAgg240
  z139 := Tryz.sizeOf240
  v139 := Tryz.zeroValue240
  g3 := by kernel_rfl
  g4 := by kernel_rfl }
def Tryz.lays160_ren : Go.Shelf.Ren := ⟨fun | 160 => 101 | 232 => 166 | 231 => 165 | 227 => 107 | 234 => 168 | 233 => 167 | 236 => 170 | 235 => 169 | 228 => 108 | 271 => 212 | 151 => 211 | 197 => 210 | 120 => 244 | 152 => 105 | 260 => 243 | 137 => 146 | 119 => 171 | 224 => 172 | 225 => 173 | 217 => 197 | 266 => 228 | n => n, fun | 9 => 9 | 4 => 4 | 3 => 3 | 5 => 5 | 117 => 113 | 116 => 112 | 0 => 0 | 124 => 169 | 21 => 21 | 105 => 194 | 46 => 172 | 119 => 237 | 139 => 240 | 138 => 239 | n => n, fun | 3 => 5 | 4 => 6 | n => n⟩
theorem Tryz.lays160 : Go.Proofs.Lays.n160 Tryz.prog Tryz.lays160_ren := {
  mixed := by kernel_rfl
  f119 := Tryz.func171.trans (congrArg some krf)
  f120 := Tryz.func244.trans (congrArg some krf)
  f137 := Tryz.func146.trans (congrArg some krf)
  f151 := Tryz.func211.trans (congrArg some krf)
  f152 := Tryz.func105.trans (congrArg some krf)
  f160 := Tryz.func101.trans (congrArg some krf)
  f197 := Tryz.func210.trans (congrArg some krf)
  f217 := Tryz.func197.trans (congrArg some krf)
  f224 := Tryz.func172.trans (congrArg some krf)
  f225 := Tryz.func173.trans (congrArg some krf)
  f227 := Tryz.func107.trans (congrArg some krf)
  f228 := Tryz.func108.trans (congrArg some krf)
  f231 := Tryz.func165.trans (congrArg some krf)
  f232 := Tryz.func166.trans (congrArg some krf)
  f233 := Tryz.func167.trans (congrArg some krf)
  f234 := Tryz.func168.trans (congrArg some krf)
  f235 := Tryz.func169.trans (congrArg some krf)
  f236 := Tryz.func170.trans (congrArg some krf)
  f260 := Tryz.func243.trans (congrArg some krf)
  f266 := Tryz.func228.trans (congrArg some krf)
  f271 := Tryz.func212.trans (congrArg some krf)
  t0 := Tryz.underlying0
  a0 := Tryz.isAgg0
  z0 := Tryz.sizeOf0
  v0 := Tryz.zeroValue0
  t3 := Tryz.underlying3
  a3 := Tryz.isAgg3
  z3 := Tryz.sizeOf3
  v3 := Tryz.zeroValue3
  t4 := Tryz.underlying4
  a4 := Tryz.isAgg4
  z4 := Tryz.sizeOf4
  v4 := Tryz.zeroValue4
  t5 := Tryz.underlying5
  a5 := Tryz.isAgg5
  z5 := Tryz.sizeOf5
  v5 := Tryz.zeroValue5
  t9 := Tryz.underlying9
  a9 := Tryz.isAgg9
  z9 := Tryz.sizeOf9
  v9 := Tryz.zeroValue9
  t21 := Tryz.underlying21
  a21 := Tryz.isAgg21
  z21 := Tryz.sizeOf21
  v21 := Tryz.zeroValue21
  t46 := Tryz.underlying172
  a46 := Tryz.isAgg172
  z46 := Tryz.sizeOf172
  v46 := Tryz.zeroValue172
  t105 := Tryz.underlying194
  a105 := Tryz.isAgg194
  z105 := Tryz.sizeOf194
  v105 := Tryz.zeroValue194
  t116 := Tryz.underlying112
  a116 := Tryz.isAgg112
  z116 := Tryz.sizeOf112
  t117 := Tryz.underlying113
  a117 := Tryz.isAgg113
  z117 := Tryz.sizeOf113
  v117 := Tryz.zeroValue113
  t119 := Tryz.underlying237
  a119 := Tryz.isAgg237
  z119 := Tryz.sizeOf237
  t124 := Tryz.underlying169
  a124 := Tryz.isAgg169
  z124 := Tryz.sizeOf169
  v124 := Tryz.zeroValue169
  t138 := Tryz.underlying239
  a138 := Tryz.isAgg239
  z138 := Tryz.sizeOf239
  v138 := Tryz.zeroValue239
  t139 := Tryz.underlying240
  a139 := Tryz.isAgg240
  z139 := Tryz.sizeOf240
  v139 := Tryz.zeroValue240
  g3 := by kernel_rfl
  g4 := by kernel_rfl }
def Tryz.lays137_ren : Go.Shelf.Ren := ⟨fun | 137 => 146 | 217 => 197 | 266 => 228 | n => n, fun | 9 => 9 | 5 => 5 | 3 => 3 | n => n, fun | n => n⟩
theorem Tryz.lays137 : Go.Proofs.Lays.n137 Tryz.prog Tryz.lays137_ren := {
  mixed := by kernel_rfl
  f137 := Tryz.func146.trans (congrArg some krf)
  f217 := Tryz.func197.trans (congrArg some krf)
  f266 := Tryz.func228.trans (congrArg some krf)
  t3 := Tryz.underlying3
  a3 := Tryz.isAgg3
  z3 := Tryz.sizeOf3
  v3 := Tryz.zeroValue3
  t5 := Tryz.underlying5
  a5 := Tryz.isAgg5
  z5 := Tryz.sizeOf5
  v5 := Tryz.zeroValue5
  t9 := Tryz.underlying9
  a9 := Tryz.isAgg9
  z9 := Tryz.sizeOf9
  v9 := Tryz.zeroValue9 }
open Go.RowKit in
theorem Tryz.strings_IndexByte (s : ByteArray) (c : Int) (w : World) :
    Calls Tryz.prog 146 #[.string s, .int .u8 c] w fun e w' => e = .returned (.int .i64 (Lib.indexByte s.data.toList c.toNat.toUInt8)) ∧ w' = w := Any.strings_IndexByte Tryz.lays137 s c w
def Tryz.lays103_ren : Go.Shelf.Ren := ⟨fun | 103 => 239 | 210 => 261 | 206 => 269 | n => n, fun | 9 => 9 | 4 => 4 | 24 => 42 | 3 => 3 | n => n, fun | n => n⟩
theorem Tryz.lays103 : Go.Proofs.Lays.n103 Tryz.prog Tryz.lays103_ren := {
  mixed := by kernel_rfl
  f103 := Tryz.func239.trans (congrArg some krf)
  f206 := Tryz.func269.trans (congrArg some krf)
  f210 := Tryz.func261.trans (congrArg some krf)
  t3 := Tryz.underlying3
  a3 := Tryz.isAgg3
  z3 := Tryz.sizeOf3
  v3 := Tryz.zeroValue3
  t4 := Tryz.underlying4
  a4 := Tryz.isAgg4
  z4 := Tryz.sizeOf4
  v4 := Tryz.zeroValue4
  t9 := Tryz.underlying9
  a9 := Tryz.isAgg9
  z9 := Tryz.sizeOf9
  v9 := Tryz.zeroValue9
  t24 := Tryz.underlying42
  a24 := Tryz.isAgg42
  z24 := Tryz.sizeOf42
  v24 := Tryz.zeroValue42 }
open Go.RowKit in
theorem Tryz.strings_CutPrefix (s p : ByteArray) (w : World) :
    Calls Tryz.prog 239 #[.string s, .string p] w fun e w' => e = .returned (.tuple #[.string ⟨(Lib.trimPrefix s.data.toList p.data.toList).toArray⟩, .bool (Lib.hasPrefix s.data.toList p.data.toList)]) ∧ w' = w := Any.strings_CutPrefix Tryz.lays103 s p w
def Tryz.laysM171_ren : Go.Shelf.Ren := ⟨fun | 171 => 72 | 243 => 132 | 246 => 188 | 283 => 219 | 284 => 220 | 285 => 221 | 286 => 222 | 129 => 247 | 317 => 246 | 318 => 248 | 319 => 249 | 320 => 250 | 337 => 263 | 338 => 264 | n => n, fun | 3 => 3 | 9 => 9 | 2 => 2 | 4 => 4 | 171 => 204 | 0 => 0 | 53 => 205 | 37 => 92 | 5 => 5 | 173 => 208 | 212 => 226 | 51 => 227 | 20 => 20 | 213 => 228 | 46 => 172 | 232 => 244 | 233 => 245 | n => n, fun | 17 => 4 | 18 => 7 | 19 => 8 | n => n⟩
theorem Tryz.laysM171 : Go.Proofs.LaysM.n171 Tryz.prog Tryz.laysM171_ren := {
  mixed := by kernel_rfl
  f129 := Tryz.func247.trans (congrArg some krf)
  f171 := Tryz.func72.trans (congrArg some krf)
  f243 := Tryz.func132.trans (congrArg some krf)
  f246 := Tryz.func188.trans (congrArg some krf)
  f283 := Tryz.func219.trans (congrArg some krf)
  f284 := Tryz.func220.trans (congrArg some krf)
  f285 := Tryz.func221.trans (congrArg some krf)
  f286 := Tryz.func222.trans (congrArg some krf)
  f317 := Tryz.func246.trans (congrArg some krf)
  f318 := Tryz.func248.trans (congrArg some krf)
  f319 := Tryz.func249.trans (congrArg some krf)
  f320 := Tryz.func250.trans (congrArg some krf)
  f337 := Tryz.func263.trans (congrArg some krf)
  f338 := Tryz.func264.trans (congrArg some krf)
  t0 := Tryz.underlying0
  a0 := Tryz.isAgg0
  z0 := Tryz.sizeOf0
  v0 := Tryz.zeroValue0
  t2 := Tryz.underlying2
  a2 := Tryz.isAgg2
  z2 := Tryz.sizeOf2
  v2 := Tryz.zeroValue2
  t3 := Tryz.underlying3
  a3 := Tryz.isAgg3
  z3 := Tryz.sizeOf3
  v3 := Tryz.zeroValue3
  t4 := Tryz.underlying4
  a4 := Tryz.isAgg4
  z4 := Tryz.sizeOf4
  v4 := Tryz.zeroValue4
  t5 := Tryz.underlying5
  a5 := Tryz.isAgg5
  z5 := Tryz.sizeOf5
  v5 := Tryz.zeroValue5
  t9 := Tryz.underlying9
  a9 := Tryz.isAgg9
  z9 := Tryz.sizeOf9
  v9 := Tryz.zeroValue9
  t20 := Tryz.underlying20
  a20 := Tryz.isAgg20
  z20 := Tryz.sizeOf20
  v20 := Tryz.zeroValue20
  t37 := Tryz.underlying92
  a37 := Tryz.isAgg92
  z37 := Tryz.sizeOf92
  v37 := Tryz.zeroValue92
  t46 := Tryz.underlying172
  a46 := Tryz.isAgg172
  z46 := Tryz.sizeOf172
  v46 := Tryz.zeroValue172
  t51 := Tryz.underlying227
  a51 := Tryz.isAgg227
  z51 := Tryz.sizeOf227
  v51 := Tryz.zeroValue227
  t53 := Tryz.underlying205
  a53 := Tryz.isAgg205
  z53 := Tryz.sizeOf205
  v53 := Tryz.zeroValue205
  t171 := Tryz.underlying204
  a171 := Tryz.isAgg204
  z171 := Tryz.sizeOf204
  v171 := Tryz.zeroValue204
  t173 := Tryz.underlying208
  a173 := Tryz.isAgg208
  z173 := Tryz.sizeOf208
  v173 := Tryz.zeroValue208
  t212 := Tryz.underlying226
  a212 := Tryz.isAgg226
  z212 := Tryz.sizeOf226
  v212 := Tryz.zeroValue226
  t213 := Tryz.underlying228
  a213 := Tryz.isAgg228
  z213 := Tryz.sizeOf228
  t232 := Tryz.underlying244
  a232 := Tryz.isAgg244
  z232 := Tryz.sizeOf244
  v232 := Tryz.zeroValue244
  t233 := Tryz.underlying245
  a233 := Tryz.isAgg245
  z233 := Tryz.sizeOf245
  v233 := Tryz.zeroValue245
  g17 := by kernel_rfl
  g18 := by kernel_rfl
  g19 := by kernel_rfl
  i0 := by kernel_rfl
  i2 := by kernel_rfl
  i3 := by kernel_rfl
  i4 := by kernel_rfl
  i5 := by kernel_rfl
  i9 := by kernel_rfl
  i20 := by kernel_rfl
  i37 := by kernel_rfl
  i46 := by kernel_rfl
  i51 := by kernel_rfl
  i53 := by kernel_rfl
  i171 := by kernel_rfl
  i173 := by kernel_rfl
  i212 := by kernel_rfl
  i232 := by kernel_rfl
  i233 := by kernel_rfl
  m17 := by kernel_rfl
  m18 := by kernel_rfl
  m19 := by kernel_rfl }
open Go.RowKit Go.Sort Go.Lib in
theorem Tryz.strconv_Itoa (n : Int) (h0 : -9223372036854775808 ≤ n) (h1 : n ≤ 9223372036854775807) (w : World) (htab : Lib.TabIs Tryz.prog w "internal/strconv.uint64pow10" .u64 Lib.pow10Tab) :
    Calls Tryz.prog 72 #[.int .i64 n] w fun e w' => e = .returned (.string ⟨(Lib.itoa n).toArray⟩) ∧ ∃ k os, w' = grow (w.drewN k) os := Any.strconv_Itoa Tryz.laysM171 n h0 h1 w htab
def Tryz.lays143_ren : Go.Shelf.Ren := ⟨fun | 143 => 175 | 219 => 190 | 217 => 197 | 225 => 173 | 224 => 172 | 267 => 223 | 266 => 228 | 314 => 251 | n => n, fun | 9 => 9 | 3 => 3 | 4 => 4 | 5 => 5 | 46 => 172 | 146 => 230 | 51 => 227 | n => n, fun | 1 => 2 | n => n⟩
theorem Tryz.lays143 : Go.Proofs.Lays.n143 Tryz.prog Tryz.lays143_ren := {
  mixed := by kernel_rfl
  f143 := Tryz.func175.trans (congrArg some krf)
  f217 := Tryz.func197.trans (congrArg some krf)
  f219 := Tryz.func190.trans (congrArg some krf)
  f224 := Tryz.func172.trans (congrArg some krf)
  f225 := Tryz.func173.trans (congrArg some krf)
  f266 := Tryz.func228.trans (congrArg some krf)
  f267 := Tryz.func223.trans (congrArg some krf)
  f314 := Tryz.func251.trans (congrArg some krf)
  t3 := Tryz.underlying3
  a3 := Tryz.isAgg3
  z3 := Tryz.sizeOf3
  v3 := Tryz.zeroValue3
  t4 := Tryz.underlying4
  a4 := Tryz.isAgg4
  z4 := Tryz.sizeOf4
  v4 := Tryz.zeroValue4
  t5 := Tryz.underlying5
  a5 := Tryz.isAgg5
  z5 := Tryz.sizeOf5
  v5 := Tryz.zeroValue5
  t9 := Tryz.underlying9
  a9 := Tryz.isAgg9
  z9 := Tryz.sizeOf9
  v9 := Tryz.zeroValue9
  t46 := Tryz.underlying172
  a46 := Tryz.isAgg172
  z46 := Tryz.sizeOf172
  v46 := Tryz.zeroValue172
  t51 := Tryz.underlying227
  a51 := Tryz.isAgg227
  z51 := Tryz.sizeOf227
  v51 := Tryz.zeroValue227
  t146 := Tryz.underlying230
  a146 := Tryz.isAgg230
  z146 := Tryz.sizeOf230
  v146 := Tryz.zeroValue230
  g1 := by kernel_rfl }
open Go.RowKit Go.Lib in
theorem Tryz.strings_Index (s sub : ByteArray) (m : Int) (w : World) (hs : s.size < 4294967281) (hm : w.cell? ⟨2, 0, none⟩ = some (.int .i64 m)) :
    Calls Tryz.prog 175 #[.string s, .string sub] w fun e w' => e = .returned (.int .i64 (Lib.index s.data.toList sub.data.toList)) ∧ w' = w := Any.strings_Index Tryz.lays143 s sub m w hs hm
def Tryz.lays144_ren : Go.Shelf.Ren := ⟨fun | 144 => 110 | 143 => 175 | 219 => 190 | 217 => 197 | 225 => 173 | 224 => 172 | 267 => 223 | 266 => 228 | 314 => 251 | n => n, fun | 9 => 9 | 4 => 4 | 3 => 3 | 5 => 5 | 46 => 172 | 146 => 230 | 51 => 227 | n => n, fun | 1 => 2 | n => n⟩
theorem Tryz.lays144 : Go.Proofs.Lays.n144 Tryz.prog Tryz.lays144_ren := {
  mixed := by kernel_rfl
  f143 := Tryz.func175.trans (congrArg some krf)
  f144 := Tryz.func110.trans (congrArg some krf)
  f217 := Tryz.func197.trans (congrArg some krf)
  f219 := Tryz.func190.trans (congrArg some krf)
  f224 := Tryz.func172.trans (congrArg some krf)
  f225 := Tryz.func173.trans (congrArg some krf)
  f266 := Tryz.func228.trans (congrArg some krf)
  f267 := Tryz.func223.trans (congrArg some krf)
  f314 := Tryz.func251.trans (congrArg some krf)
  t3 := Tryz.underlying3
  a3 := Tryz.isAgg3
  z3 := Tryz.sizeOf3
  v3 := Tryz.zeroValue3
  t4 := Tryz.underlying4
  a4 := Tryz.isAgg4
  z4 := Tryz.sizeOf4
  v4 := Tryz.zeroValue4
  t5 := Tryz.underlying5
  a5 := Tryz.isAgg5
  z5 := Tryz.sizeOf5
  v5 := Tryz.zeroValue5
  t9 := Tryz.underlying9
  a9 := Tryz.isAgg9
  z9 := Tryz.sizeOf9
  v9 := Tryz.zeroValue9
  t46 := Tryz.underlying172
  a46 := Tryz.isAgg172
  z46 := Tryz.sizeOf172
  v46 := Tryz.zeroValue172
  t51 := Tryz.underlying227
  a51 := Tryz.isAgg227
  z51 := Tryz.sizeOf227
  v51 := Tryz.zeroValue227
  t146 := Tryz.underlying230
  a146 := Tryz.isAgg230
  z146 := Tryz.sizeOf230
  v146 := Tryz.zeroValue230
  g1 := by kernel_rfl }
open Go.RowKit Go.Lib in
theorem Tryz.strings_Contains (s sub : ByteArray) (m : Int) (w : World) (hs : s.size < 4294967281) (hm : w.cell? ⟨2, 0, none⟩ = some (.int .i64 m)) :
    Calls Tryz.prog 110 #[.string s, .string sub] w fun e w' => e = .returned (.bool (Lib.contains s.data.toList sub.data.toList)) ∧ w' = w := Any.strings_Contains Tryz.lays144 s sub m w hs hm
def Tryz.lays145_ren : Go.Shelf.Ren := ⟨fun | 145 => 77 | 220 => 136 | 219 => 190 | 217 => 197 | 225 => 173 | 224 => 172 | 267 => 223 | 266 => 228 | 314 => 251 | n => n, fun | 9 => 9 | 4 => 4 | 59 => 81 | 3 => 3 | 5 => 5 | 46 => 172 | 146 => 230 | 51 => 227 | n => n, fun | 1 => 2 | n => n⟩
theorem Tryz.lays145 : Go.Proofs.Lays.n145 Tryz.prog Tryz.lays145_ren := {
  mixed := by kernel_rfl
  f145 := Tryz.func77.trans (congrArg some krf)
  f217 := Tryz.func197.trans (congrArg some krf)
  f219 := Tryz.func190.trans (congrArg some krf)
  f220 := Tryz.func136.trans (congrArg some krf)
  f224 := Tryz.func172.trans (congrArg some krf)
  f225 := Tryz.func173.trans (congrArg some krf)
  f266 := Tryz.func228.trans (congrArg some krf)
  f267 := Tryz.func223.trans (congrArg some krf)
  f314 := Tryz.func251.trans (congrArg some krf)
  t3 := Tryz.underlying3
  a3 := Tryz.isAgg3
  z3 := Tryz.sizeOf3
  v3 := Tryz.zeroValue3
  t4 := Tryz.underlying4
  a4 := Tryz.isAgg4
  z4 := Tryz.sizeOf4
  v4 := Tryz.zeroValue4
  t5 := Tryz.underlying5
  a5 := Tryz.isAgg5
  z5 := Tryz.sizeOf5
  v5 := Tryz.zeroValue5
  t9 := Tryz.underlying9
  a9 := Tryz.isAgg9
  z9 := Tryz.sizeOf9
  v9 := Tryz.zeroValue9
  t46 := Tryz.underlying172
  a46 := Tryz.isAgg172
  z46 := Tryz.sizeOf172
  v46 := Tryz.zeroValue172
  t51 := Tryz.underlying227
  a51 := Tryz.isAgg227
  z51 := Tryz.sizeOf227
  v51 := Tryz.zeroValue227
  t59 := Tryz.underlying81
  a59 := Tryz.isAgg81
  z59 := Tryz.sizeOf81
  v59 := Tryz.zeroValue81
  t146 := Tryz.underlying230
  a146 := Tryz.isAgg230
  z146 := Tryz.sizeOf230
  v146 := Tryz.zeroValue230
  g1 := by kernel_rfl }
open Go.RowKit Go.Lib in
theorem Tryz.strings_Cut (s sep : ByteArray) (m : Int) (w : World) (hs : s.size < 4294967281) (hm : w.cell? ⟨2, 0, none⟩ = some (.int .i64 m)) :
    Calls Tryz.prog 77 #[.string s, .string sep] w fun e w' => e = .returned (.tuple #[.string ⟨(Lib.cut s.data.toList sep.data.toList).1.toArray⟩, .string ⟨(Lib.cut s.data.toList sep.data.toList).2.1.toArray⟩, .bool (Lib.cut s.data.toList sep.data.toList).2.2]) ∧ ∃ n, w' = w.drewN n := Any.strings_Cut Tryz.lays145 s sep m w hs hm
def Tryz.lays149_ren : Go.Shelf.Ren := ⟨fun | 149 => 109 | 222 => 174 | n => n, fun | 9 => 9 | 5 => 5 | 3 => 3 | 4 => 4 | n => n, fun | n => n⟩
theorem Tryz.lays149 : Go.Proofs.Lays.n149 Tryz.prog Tryz.lays149_ren := {
  mixed := by kernel_rfl
  f149 := Tryz.func109.trans (congrArg some krf)
  f222 := Tryz.func174.trans (congrArg some krf)
  t3 := Tryz.underlying3
  a3 := Tryz.isAgg3
  z3 := Tryz.sizeOf3
  v3 := Tryz.zeroValue3
  t4 := Tryz.underlying4
  a4 := Tryz.isAgg4
  z4 := Tryz.sizeOf4
  v4 := Tryz.zeroValue4
  t5 := Tryz.underlying5
  a5 := Tryz.isAgg5
  z5 := Tryz.sizeOf5
  v5 := Tryz.zeroValue5
  t9 := Tryz.underlying9
  a9 := Tryz.isAgg9
  z9 := Tryz.sizeOf9
  v9 := Tryz.zeroValue9 }
open Go.RowKit Go.Lib in
theorem Tryz.strings_LastIndexByte (s : ByteArray) (c : Int) (hs : s.size < 4611686018427387904) (w : World) :
    Calls Tryz.prog 109 #[.string s, .int .u8 c] w fun e w' => e = .returned (.int .i64 (Lib.lastIndexByte s c)) ∧ w' = w := Any.strings_LastIndexByte Tryz.lays149 s c hs w
def Tryz.lays101_ren : Go.Shelf.Ren := ⟨fun | 101 => 256 | 208 => 267 | 206 => 269 | n => n, fun | 9 => 9 | 4 => 4 | 3 => 3 | n => n, fun | n => n⟩
theorem Tryz.lays101 : Go.Proofs.Lays.n101 Tryz.prog Tryz.lays101_ren := {
  mixed := by kernel_rfl
  f101 := Tryz.func256.trans (congrArg some krf)
  f206 := Tryz.func269.trans (congrArg some krf)
  f208 := Tryz.func267.trans (congrArg some krf)
  t3 := Tryz.underlying3
  a3 := Tryz.isAgg3
  z3 := Tryz.sizeOf3
  v3 := Tryz.zeroValue3
  t4 := Tryz.underlying4
  a4 := Tryz.isAgg4
  z4 := Tryz.sizeOf4
  v4 := Tryz.zeroValue4
  t9 := Tryz.underlying9
  a9 := Tryz.isAgg9
  z9 := Tryz.sizeOf9
  v9 := Tryz.zeroValue9 }
open Go.RowKit Go.Lib in
theorem Tryz.strings_TrimPrefix (s p : ByteArray) (w : World) :
    Calls Tryz.prog 256 #[.string s, .string p] w fun e w' => e = .returned (.string ⟨(Lib.trimPrefix s.data.toList p.data.toList).toArray⟩) ∧ w' = w := Any.strings_TrimPrefix Tryz.lays101 s p w
def Tryz.lays146_ren : Go.Shelf.Ren := ⟨fun | 146 => 141 | 221 => 194 | 268 => 225 | 138 => 226 | 143 => 175 | 195 => 252 | 197 => 210 | 218 => 253 | 219 => 190 | 260 => 243 | 217 => 197 | 225 => 173 | 224 => 172 | 267 => 223 | 266 => 228 | 314 => 251 | n => n, fun | 9 => 9 | 31 => 54 | 3 => 3 | 4 => 4 | 0 => 0 | 105 => 194 | 21 => 21 | 5 => 5 | 46 => 172 | 119 => 237 | 139 => 240 | 138 => 239 | 146 => 230 | 51 => 227 | n => n, fun | 1 => 2 | 3 => 5 | 4 => 6 | n => n⟩
theorem Tryz.lays146 : Go.Proofs.Lays.n146 Tryz.prog Tryz.lays146_ren := {
  mixed := by kernel_rfl
  f138 := Tryz.func226.trans (congrArg some krf)
  f143 := Tryz.func175.trans (congrArg some krf)
  f146 := Tryz.func141.trans (congrArg some krf)
  f195 := Tryz.func252.trans (congrArg some krf)
  f197 := Tryz.func210.trans (congrArg some krf)
  f217 := Tryz.func197.trans (congrArg some krf)
  f218 := Tryz.func253.trans (congrArg some krf)
  f219 := Tryz.func190.trans (congrArg some krf)
  f221 := Tryz.func194.trans (congrArg some krf)
  f224 := Tryz.func172.trans (congrArg some krf)
  f225 := Tryz.func173.trans (congrArg some krf)
  f260 := Tryz.func243.trans (congrArg some krf)
  f266 := Tryz.func228.trans (congrArg some krf)
  f267 := Tryz.func223.trans (congrArg some krf)
  f268 := Tryz.func225.trans (congrArg some krf)
  f314 := Tryz.func251.trans (congrArg some krf)
  t0 := Tryz.underlying0
  a0 := Tryz.isAgg0
  z0 := Tryz.sizeOf0
  v0 := Tryz.zeroValue0
  t3 := Tryz.underlying3
  a3 := Tryz.isAgg3
  z3 := Tryz.sizeOf3
  v3 := Tryz.zeroValue3
  t4 := Tryz.underlying4
  a4 := Tryz.isAgg4
  z4 := Tryz.sizeOf4
  v4 := Tryz.zeroValue4
  t5 := Tryz.underlying5
  a5 := Tryz.isAgg5
  z5 := Tryz.sizeOf5
  v5 := Tryz.zeroValue5
  t9 := Tryz.underlying9
  a9 := Tryz.isAgg9
  z9 := Tryz.sizeOf9
  v9 := Tryz.zeroValue9
  t21 := Tryz.underlying21
  a21 := Tryz.isAgg21
  z21 := Tryz.sizeOf21
  v21 := Tryz.zeroValue21
  t31 := Tryz.underlying54
  a31 := Tryz.isAgg54
  z31 := Tryz.sizeOf54
  v31 := Tryz.zeroValue54
  t46 := Tryz.underlying172
  a46 := Tryz.isAgg172
  z46 := Tryz.sizeOf172
  v46 := Tryz.zeroValue172
  t51 := Tryz.underlying227
  a51 := Tryz.isAgg227
  z51 := Tryz.sizeOf227
  v51 := Tryz.zeroValue227
  t105 := Tryz.underlying194
  a105 := Tryz.isAgg194
  z105 := Tryz.sizeOf194
  v105 := Tryz.zeroValue194
  t119 := Tryz.underlying237
  a119 := Tryz.isAgg237
  z119 := Tryz.sizeOf237
  t138 := Tryz.underlying239
  a138 := Tryz.isAgg239
  z138 := Tryz.sizeOf239
  v138 := Tryz.zeroValue239
  t139 := Tryz.underlying240
  a139 := Tryz.isAgg240
  z139 := Tryz.sizeOf240
  v139 := Tryz.zeroValue240
  t146 := Tryz.underlying230
  a146 := Tryz.isAgg230
  z146 := Tryz.sizeOf230
  v146 := Tryz.zeroValue230
  g1 := by kernel_rfl
  g3 := by kernel_rfl
  g4 := by kernel_rfl }
open Go.RowKit Go.Lib in
theorem Tryz.strings_Split (s sep : ByteArray) (m : Int) (w : World) (hs : s.size < 4294967281) (hm : w.cell? ⟨2, 0, none⟩ = some (.int .i64 m)) (h1 : 1 ≤ sep.size) :
    Calls Tryz.prog 141 #[.string s, .string sep] w fun e w' =>
      e = .returned (.slice (some ⟨w.heap.size, 0, none⟩) (Lib.countB s sep + 1) (Lib.countB s sep + 1)) ∧ w' = w.alloc (.cells ((Lib.splitB sep 0 (Lib.countB s sep) s).map Value.string).toArray 9) := Any.strings_Split Tryz.lays146 krf s sep m w hs hm h1
def Tryz.lays153_ren : Go.Shelf.Ren := ⟨fun | 153 => 56 | 152 => 105 | 226 => 106 | 227 => 107 | 228 => 108 | 137 => 146 | 119 => 171 | 224 => 172 | 225 => 173 | 217 => 197 | 266 => 228 | n => n, fun | 9 => 9 | 3 => 3 | 4 => 4 | 5 => 5 | 21 => 21 | 117 => 113 | 116 => 112 | 0 => 0 | 46 => 172 | 124 => 169 | n => n, fun | n => n⟩
theorem Tryz.lays153 : Go.Proofs.Lays.n153 Tryz.prog Tryz.lays153_ren := {
  mixed := by kernel_rfl
  f119 := Tryz.func171.trans (congrArg some krf)
  f137 := Tryz.func146.trans (congrArg some krf)
  f152 := Tryz.func105.trans (congrArg some krf)
  f153 := Tryz.func56.trans (congrArg some krf)
  f217 := Tryz.func197.trans (congrArg some krf)
  f224 := Tryz.func172.trans (congrArg some krf)
  f225 := Tryz.func173.trans (congrArg some krf)
  f226 := Tryz.func106.trans (congrArg some krf)
  f227 := Tryz.func107.trans (congrArg some krf)
  f228 := Tryz.func108.trans (congrArg some krf)
  f266 := Tryz.func228.trans (congrArg some krf)
  t0 := Tryz.underlying0
  a0 := Tryz.isAgg0
  z0 := Tryz.sizeOf0
  v0 := Tryz.zeroValue0
  t3 := Tryz.underlying3
  a3 := Tryz.isAgg3
  z3 := Tryz.sizeOf3
  v3 := Tryz.zeroValue3
  t4 := Tryz.underlying4
  a4 := Tryz.isAgg4
  z4 := Tryz.sizeOf4
  v4 := Tryz.zeroValue4
  t5 := Tryz.underlying5
  a5 := Tryz.isAgg5
  z5 := Tryz.sizeOf5
  v5 := Tryz.zeroValue5
  t9 := Tryz.underlying9
  a9 := Tryz.isAgg9
  z9 := Tryz.sizeOf9
  v9 := Tryz.zeroValue9
  t21 := Tryz.underlying21
  a21 := Tryz.isAgg21
  z21 := Tryz.sizeOf21
  v21 := Tryz.zeroValue21
  t46 := Tryz.underlying172
  a46 := Tryz.isAgg172
  z46 := Tryz.sizeOf172
  v46 := Tryz.zeroValue172
  t116 := Tryz.underlying112
  a116 := Tryz.isAgg112
  z116 := Tryz.sizeOf112
  t117 := Tryz.underlying113
  a117 := Tryz.isAgg113
  z117 := Tryz.sizeOf113
  v117 := Tryz.zeroValue113
  t124 := Tryz.underlying169
  a124 := Tryz.isAgg169
  z124 := Tryz.sizeOf169
  v124 := Tryz.zeroValue169 }
open Go.RowKit Go.Lib in
theorem Tryz.strings_IndexAny_none (s chars : ByteArray) (w : World) (h0 : chars.size = 0) :
    Calls Tryz.prog 56 #[.string s, .string chars] w fun e w' => e = .returned (.int .i64 (Lib.indexAny s.data.toList chars.data.toList)) ∧ w' = w := Any.strings_IndexAny_none Tryz.lays153 s chars w h0
open Go.RowKit Go.Lib in
theorem Tryz.strings_IndexAny_one (s chars : ByteArray) (w : World) (h1 : chars.size = 1) (hascii : ∀ (j : Nat) b, chars.data.toList[j]? = some b → b.toNat < 128) :
    Calls Tryz.prog 56 #[.string s, .string chars] w fun e w' => e = .returned (.int .i64 (Lib.indexAny s.data.toList chars.data.toList)) ∧ w' = w := Any.strings_IndexAny_one Tryz.lays153 s chars w h1 hascii
open Go.RowKit Go.Lib in
theorem Tryz.strings_IndexAny_long (hv116 : ∀ w, (zeroValue 112).run Tryz.prog w = .ok (.agg (Array.replicate 256 (.bool false))) w) (s chars : ByteArray) (w : World) (h2 : 2 ≤ chars.size) (h8 : 8 < s.size) (hs : s.size < 4294967281) (hcs : chars.size < 4294967281) (hascii : ∀ (j : Nat) b, chars.data.toList[j]? = some b → b.toNat < 128) :
    Calls Tryz.prog 56 #[.string s, .string chars] w fun e w' => e = .returned (.int .i64 (Lib.indexAny s.data.toList chars.data.toList)) ∧ w' = ((w.alloc (.cells (Lib.setCells chars.data.toList) 112)).alloc (.cells (Lib.setCells chars.data.toList) 112)) := Any.strings_IndexAny_long Tryz.lays153 hv116 krf s chars w h2 h8 hs hcs hascii
open Go.RowKit Go.Lib in
theorem Tryz.strings_IndexAny_laid (s chars : ByteArray) (w : World) (hs : s.size < 4294967281) (hcs : chars.size < 4294967281) (has : ∀ (j : Nat) b, s.data.toList[j]? = some b → b.toNat < 128) (hac : ∀ (j : Nat) b, chars.data.toList[j]? = some b → b.toNat < 128) :
    Calls Tryz.prog 56 #[.string s, .string chars] w fun e w' => e = .returned (.int .i64 (Lib.indexAny s.data.toList chars.data.toList)) ∧ Below w.heap.size w w' := Any.strings_IndexAny_laid Tryz.lays153 krf s chars w hs hcs has hac
end Go.Proofs
set_option linter.unusedVariables false
set_option linter.unusedSimpArgs false
set_option maxRecDepth 20000
namespace Go.Proofs
open Go.Wk Go.Px
open Go.Value renaming slice → Vs, int → Vi, bool → Vb, pointer → Vp
theorem sh_IndexByte (s : List UInt8) (c : UInt8) (w : World) : CR Tryz.prog 146 [str s, bt c] w fun v w' => v = .int .i64 (ixb (· == c) s) ∧ Hp w [] [] w' := by
  have h := Tryz.strings_IndexByte ⟨s.toArray⟩ (c.toNat : Int) w
  rw [show ((c.toNat : Int).toNat.toUInt8) = c by simp] at h
  rw [← indexByte_ixb]
  exact abe h
theorem sh_LastIndexByte (s : List UInt8) (c : UInt8) (w : World) (hs : s.length ≤ 1000000000) : CR Tryz.prog 109 [str s, bt c] w fun v w' => v = .int .i64 (lixb (· == c) s) ∧ Hp w [] [] w' := by
  have h := Tryz.strings_LastIndexByte ⟨s.toArray⟩ (c.toNat : Int) (by show s.length < _; omega) w
  rw [lastIndexByte_lixb] at h
  exact abe h
theorem sh_Contains (s t : List UInt8) (w : World) (hs : s.length ≤ 1000000000) (hG : Gl w) : CR Tryz.prog 110 [str s, str t] w fun v w' => v = .bool (Lib.contains s t) ∧ Hp w [] [] w' := by
  obtain ⟨m, hm⟩ := hG.cell
  exact abe (Tryz.strings_Contains ⟨s.toArray⟩ ⟨t.toArray⟩ m w (by show s.length < _; omega) hm)
theorem sh_Index (s t : List UInt8) (w : World) (hs : s.length ≤ 1000000000) (hG : Gl w) : CR Tryz.prog 175 [str s, str t] w fun v w' => v = .int .i64 (Lib.index s t) ∧ Hp w [] [] w' := by
  obtain ⟨m, hm⟩ := hG.cell
  exact abe (Tryz.strings_Index ⟨s.toArray⟩ ⟨t.toArray⟩ m w (by show s.length < _; omega) hm)
theorem sh_Cut (s t : List UInt8) (w : World) (hs : s.length ≤ 1000000000) (hG : Gl w) : CR Tryz.prog 77 [str s, str t] w fun v w' => v = .tuple #[str (Lib.cut s t).1, str (Lib.cut s t).2.1, .bool (Lib.cut s t).2.2] ∧ Hp w [] [] w' := by
  obtain ⟨m, hm⟩ := hG.cell
  exact cr_drew (Tryz.strings_Cut ⟨s.toArray⟩ ⟨t.toArray⟩ m w (by show s.length < _; omega) hm)
theorem sh_CutPrefix (s t : List UInt8) (w : World) : CR Tryz.prog 239 [str s, str t] w fun v w' => v = .tuple #[str (Lib.trimPrefix s t), .bool (Lib.hasPrefix s t)] ∧ Hp w [] [] w' := by
  exact abe (Tryz.strings_CutPrefix ⟨s.toArray⟩ ⟨t.toArray⟩ w)
theorem sh_TrimPrefix (s t : List UInt8) (w : World) : CR Tryz.prog 256 [str s, str t] w fun v w' => v = str (Lib.trimPrefix s t) ∧ Hp w [] [] w' := by
  exact abe (Tryz.strings_TrimPrefix ⟨s.toArray⟩ ⟨t.toArray⟩ w)
theorem sh_Trim (s t : List UInt8) (w : World) (hs : s.length ≤ 1000000000) (ht : t.length ≤ 1000 ∧ t.all (fun b => decide (b.toNat < 128)) = true) : CR Tryz.prog 101 [str s, str t] w fun v w' => v = str (Lib.trimS s t) ∧ Hp w [] [] w' := by
  exact cr_below (Any.strings_Trim_laid Tryz.lays160 krf ⟨s.toArray⟩ ⟨t.toArray⟩ w (by show s.length ≤ _; omega) (by show t.length < _; omega) (ascii_of_all ht.2))
theorem sh_TrimLeft (s t : List UInt8) (w : World) (hs : s.length ≤ 1000000000) (ht : t.length ≤ 1000 ∧ t.all (fun b => decide (b.toNat < 128)) = true) : CR Tryz.prog 193 [str s, str t] w fun v w' => v = str (Lib.trimLeftS s t) ∧ Hp w [] [] w' := by
  exact cr_below (Any.strings_TrimLeft_laid Tryz.lays161 krf ⟨s.toArray⟩ ⟨t.toArray⟩ w (by show t.length < _; omega) (ascii_of_all ht.2))
theorem sh_TrimRight (s t : List UInt8) (w : World) (hs : s.length ≤ 1000000000) (ht : t.length ≤ 1000 ∧ t.all (fun b => decide (b.toNat < 128)) = true) : CR Tryz.prog 198 [str s, str t] w fun v w' => v = str (Lib.trimRightS s t) ∧ Hp w [] [] w' := by
  exact cr_below (Any.strings_TrimRight_laid Tryz.lays162 krf ⟨s.toArray⟩ ⟨t.toArray⟩ w (by show s.length ≤ _; omega) (by show t.length < _; omega) (ascii_of_all ht.2))
theorem sh_Itoa (i : Int) (w : World) (hi : ok64 i) (hG : Gl w) : CR Tryz.prog 72 [.int .i64 i] w fun v w' => v = str (Lib.itoa i) ∧ Hp w [] [] w' := by
  obtain ⟨t, f, e⟩ := hG.pow10
  have hT : Lib.TabIs Tryz.prog w "internal/strconv.uint64pow10" .u64 Lib.pow10Tab := by
    unfold Lib.TabIs World.var?
    rw [show Tryz.prog.globalNamed "internal/strconv.uint64pow10" = some 4 by kernel_rfl]
    simp [e]
  have h := Tryz.strconv_Itoa i hi.1 hi.2 w hT
  exact Calls.mono h fun _ _ ⟨e, k, os, hb⟩ => ⟨_, e, rfl, hb ▸ hp_grow k os⟩
theorem sh_Split (s : List UInt8) (c : UInt8) (w : World) (hs : s.length ≤ 1000000000) (hG : Gl w) : CR Tryz.prog 141 [str s, str [c]] w fun v w' => ∃ o a cap, v = .slice a (spl c s).length cap ∧ Hp w [] [rwt eS 9 1 o a cap (spl c s)] w' := by
  obtain ⟨m, hm⟩ := hG.cell
  have h := Tryz.strings_Split ⟨s.toArray⟩ ⟨#[c]⟩ m w (by show s.length < _; omega) hm (by show 1 ≤ 1; omega)
  rw [split_spl, split_spl_len] at h
  refine Calls.mono h ?_
  rintro _ _ ⟨rfl, rfl⟩
  have h1 := (Hp.refl w).alloc ((spl c s).map str) 9
  have := (spl_sum c s).1
  have e : (spl c s).flatMap eS = (spl c s).map str := by
    generalize spl c s = l
    induction l with
    | nil => rfl
    | cons x l ih => rw [List.flatMap_cons, ih]; rfl
  exact ⟨_, rfl, some w.heap.size, _, _, rfl, h1.blkrw 0 1 (spl c s).length (spl c s) rfl enc_S e rfl (by simp [maxLen]; omega)⟩
theorem flatS (l : List (List UInt8)) : l.flatMap eS = l.map str := by
  induction l with
  | nil => rfl
  | cons x l ih => rw [List.flatMap_cons, ih]; rfl
theorem sh_Join (t : List UInt8) (w : World) (a : Option Addr) (n cap : Nat) (xs : List (List UInt8)) (hn : n = xs.length) (hRe : Rd w a (xs.flatMap eS)) (hCa : n ≤ cap) (hN : xs.length ≤ 1000000000 ∧ (Lib.join xs t).length ≤ 100000000000) : CR Tryz.prog 80 [.slice a n cap, str t] w fun v w' => v = str (Lib.join xs t) ∧ Hp w [] [] w' := by
  subst hn
  rw [flatS] at hRe
  cases xs with
  | nil => exact abe (Tryz.strings_Join_none a cap ⟨t.toArray⟩ w)
  | cons x r =>
    obtain ⟨p, rfl, hp⟩ := hRe 0 (str x) (by simp)
    have hbk := cell_lt hp
    rw [add_block] at hbk
    have hsp : p.spot = none := by
      have := rd_spot hp
      simpa [Addr.add] using this
    obtain ⟨bk, o, sp⟩ := p
    simp only at hsp hbk
    subst hsp
    have e : ((x :: r).map fun l => (⟨l.toArray⟩ : ByteArray)).map (·.data.toList) = x :: r := by rw [List.map_map]; exact List.map_id _
    have h := Tryz.strings_Join bk o cap ((x :: r).map fun l => (⟨l.toArray⟩ : ByteArray)) ⟨t.toArray⟩ w (fun j y hy => by
      have := row_strs ⟨bk, o, none⟩ (x :: r) hRe j y hy
      cases j <;> simpa [Addr.add] using this) hbk (by rw [List.length_map]; omega) (by rw [List.length_map]; exact hCa) (by rw [e]; show (Lib.join (x :: r) t).length ≤ _; omega)
    rw [e, List.length_map] at h
    exact cr_below h
theorem sh_IndexAny (s t : List UInt8) (w : World) (h : s.length ≤ 1000000000 ∧ t.length ≤ 1000 ∧ t.all (fun b => decide (b.toNat < 128)) = true ∧ (8 < s.length ∨ t.length ≤ 1 ∨ s.all (fun b => decide (b.toNat < 128)) = true)) : CR Tryz.prog 56 [str s, str t] w fun v w' => v = .int .i64 (Lib.indexAny s t) ∧ Hp w [] [] w' := by
  obtain ⟨h1, h2, h3, h4⟩ := h
  by_cases h0 : t.length = 0
  · exact abe (Tryz.strings_IndexAny_none ⟨s.toArray⟩ ⟨t.toArray⟩ w h0)
  by_cases h1' : t.length = 1
  · exact abe (Tryz.strings_IndexAny_one ⟨s.toArray⟩ ⟨t.toArray⟩ w h1' (ascii_of_all h3))
  rcases h4 with h4 | h4 | h4
  · have hz : ∀ w, (zeroValue 112).run Tryz.prog w = .ok (.agg (Array.replicate 256 (.bool false))) w := (zero_of_info (n := 256) krf).1
    have h := Tryz.strings_IndexAny_long hz ⟨s.toArray⟩ ⟨t.toArray⟩ w (by show 2 ≤ t.length; omega) (by show 8 < s.length; omega) (by show s.length < _; omega) (by show t.length < _; omega) (ascii_of_all h3)
    refine Calls.mono h ?_
    rintro _ _ ⟨rfl, rfl⟩
    exact ⟨_, rfl, rfl, Hp.ofBelow ⟨rfl, rfl, rfl, by simp; omega, fun k hk => by rw [RowKit.Below.heap_alloc _ _ k (by simp; omega), RowKit.Below.heap_alloc _ _ k hk]⟩⟩
  · omega
  · exact cr_below (Tryz.strings_IndexAny_laid ⟨s.toArray⟩ ⟨t.toArray⟩ w (by show s.length < _; omega) (by show t.length < _; omega) (ascii_of_all h4) (ascii_of_all h3))
theorem sh_copyCheck (b : Nat) (z : Bool) (s : Value) (w : World) (hM : Hp w (owns [blk b [Vp (bif z then some ⟨b, 0, none⟩ else none), s] 131]) [blk b [Vp (bif z then some ⟨b, 0, none⟩ else none), s] 131] w) : CR Tryz.prog 184 [Vp (some ⟨b, 0, none⟩)] w fun v w' => v = .tuple #[] ∧ Hp w (owns [blk b [Vp (bif z then some ⟨b, 0, none⟩ else none), s] 131]) [blk b [Vp (some ⟨b, 0, none⟩), s] 131] w' := by
  cases z with
  | false =>
    have hH : Hp w (owns [blk b [(Vp none), s] 131]) [blk b [(Vp none), s] 131] w := hM
    refine enter (k := 20) Tryz.func184 rfl rfl (Nat.le_of_ble_eq_true rfl) ?_
    refine c_seq ?_
    refine c_region ?_
    refine w_move (Vp (some ⟨b, 0, none⟩)) krf ?_
    refine w_run (v := (Vp (some ⟨b, 0, none⟩))) (w' := w) rfl rfl krf ?_
    refine w_run (v := (Vp (some ⟨b, 0, none⟩))) (w' := w) rfl rfl krf ?_
    refine w_ld1 hH 0 b 0 [(Vp none), s] 131 (Vp none) rfl rfl krf krf ?_
    refine w_pnil none Tryz.underlying129 krf krf ?_
    refine w_nil ?_
    refine q_next ?_
    refine c_true krf ?_
    refine c_region ?_
    refine w_move (Vp (some ⟨b, 0, none⟩)) krf ?_
    refine w_move (Vp (some ⟨b, 0, none⟩)) krf ?_
    refine w_toUns hH 0 b 0 131 [(Vp none), s] rfl Tryz.underlying129 Tryz.underlying201 krf (by simp) krf ?_
    refine w_noEsc hH 217 (Vp (some ⟨b, 0, none⟩)) krf krf Tryz.func217 krf krf krf krf ?_
    intro w1 a0
    refine w_ofUns a0 0 b 0 131 [(Vp none), s] rfl Tryz.underlying201 Tryz.underlying129 krf krf krf ?_
    refine w_run (v := (Vp (some ⟨b, 0, none⟩))) (w' := w1) rfl rfl krf ?_
    refine w_run (v := (Vp (some ⟨b, 0, none⟩))) (w' := w1) rfl rfl krf ?_
    refine w_st1 a0 0 b 0 [(Vp none), s] 131 (Vp (some ⟨b, 0, none⟩)) [blk b [(Vp (some ⟨b, 0, none⟩)), s] 131] rfl (Nat.lt_of_lt_of_le (Nat.lt_succ_self _) (Nat.le_of_ble_eq_true rfl)) krf krf rfl krf rfl ?_
    intro w3 a1
    refine w_nil ?_
    refine r_none'  rfl  ?_
    exact ⟨rfl, a1.kp⟩
  | true =>
    have hH : Hp w (owns [blk b [(Vp (some ⟨b, 0, none⟩)), s] 131]) [blk b [(Vp (some ⟨b, 0, none⟩)), s] 131] w := hM
    refine enter (k := 20) Tryz.func184 rfl rfl (Nat.le_of_ble_eq_true rfl) ?_
    refine c_seq ?_
    refine c_region ?_
    refine w_move (Vp (some ⟨b, 0, none⟩)) krf ?_
    refine w_run (v := (Vp (some ⟨b, 0, none⟩))) (w' := w) rfl rfl krf ?_
    refine w_run (v := (Vp (some ⟨b, 0, none⟩))) (w' := w) rfl rfl krf ?_
    refine w_ld1 hH 0 b 0 [(Vp (some ⟨b, 0, none⟩)), s] 131 (Vp (some ⟨b, 0, none⟩)) rfl rfl krf krf ?_
    refine w_pnil (some ⟨b, 0, none⟩) Tryz.underlying129 krf krf ?_
    refine w_nil ?_
    refine q_next ?_
    refine c_false krf ?_
    refine c_seq ?_
    refine c_region ?_
    refine w_move (Vp (some ⟨b, 0, none⟩)) krf ?_
    refine w_run (v := (Vp (some ⟨b, 0, none⟩))) (w' := w) rfl rfl krf ?_
    refine w_run (v := (Vp (some ⟨b, 0, none⟩))) (w' := w) rfl rfl krf ?_
    refine w_ld1 hH 0 b 0 [(Vp (some ⟨b, 0, none⟩)), s] 131 (Vp (some ⟨b, 0, none⟩)) rfl rfl krf krf ?_
    refine w_move (Vp (some ⟨b, 0, none⟩)) krf ?_
    refine w_pself ⟨b, 0, none⟩ Tryz.underlying129 krf krf krf ?_
    refine w_nil ?_
    refine q_next ?_
    refine c_false krf ?_
    refine c_skip ?_
    refine r_none'  rfl  ?_
    exact ⟨rfl, hH.kp⟩
end Go.Proofs
set_option linter.unusedVariables false
set_option linter.unusedSimpArgs false
set_option maxRecDepth 20000
namespace Go.Proofs
open Go.Wk Go.Px Go.Ce
theorem beqn (c : UInt8) : (fun d : UInt8 => Nat.beq d.toNat c.toNat) = (· == c) := by
  funext d
  rw [Bool.eq_iff_iff]
  simp [Nat.beq_eq, UInt8.toNat_inj]
def cg0 : List SC := [.s 7 19220757857722691, .s 4 1902465859, .s 12 34178039824424540632871946573, .s 6 76223546812749, .s 4 1801666898, .s 4 1902465874, .s 16 134856309279822869049672161412773271383]
def cg1 : List SC := [.s 4 1836020294, .i .i64 1, .s 2 28500, .i .i64 1, .s 7 32760367514808131, .i .i64 1, .s 5 435745550162, .i .i64 1, .s 12 31398775957419736383438939474, .i .i64 1, .s 4 1752457552, .i .i64 1, .s 13 8038086645099452779117220619603, .i .i64 1, .s 8 8022086805604427090, .i .i64 1, .s 11 146592537699037055746991442, .i .i64 1, .s 8 8022086835787294034, .i .i64 1, .s 3 6383958, .i .i64 2, .s 4 1902465859, .i .i64 3, .s 4 1801666898, .i .i64 4, .s 14 2118593076047644386086300223958851, .i .i64 5, .s 7 32481164391381061, .i .i64 5, .s 12 35712208859136432295261004109, .i .i64 5, .s 11 139505538796981402030991693, .i .i64 5, .s 4 1902465874, .i .i64 5, .s 19 2462787319963300618914069775828421739474218819, .i .i64 6, .s 12 31393958642898984038472511299, .i .i64 6, .s 5 500068349509, .i .i64 6, .s 6 76223546812749, .i .i64 6, .s 15 599171726743894305243344019148465491, .i .i64 6, .s 18 8837943172779679942406515151746074144830803, .i .i64 6, .s 6 128026086171457, .i .i64 7, .s 5 512970484801, .i .i64 7, .s 12 35731532856486514854116224065, .i .i64 7, .s 13 8037453196880052494869233365584, .i .i64 7, .s 7 28554769915274578, .i .i64 7, .s 9 1851985001289037673811, .i .i64 7, .s 11 121371689044478372993003093, .i .i64 7]
def cg3 : List SC := [.s 8 3404504904086797606, .s 7 10180542346517851, .s 7 10180628329749851]
noncomputable def cxG (k : Nat) : Option (List SC) := bi (Nat.beq k (nat_lit 0)) (some cg0) (bi (Nat.beq k (nat_lit 1)) (some cg1) (bi (Nat.beq k (nat_lit 3)) (some cg3) (none)))
noncomputable def cx56 : List SV → Hs → Option (SV × Hs) := xs2 fun a b => bi (Nat.ble (aaw a) (nat_lit 1000000000)) (bi (Nat.ble (aaw b) (nat_lit 1000)) (bi (b.all (fun b => decide (b.toNat < 128))) (bi (or (Nat.ble (nat_lit 9) (aaw a)) (or (Nat.ble (aaw b) (nat_lit 1)) (a.all (fun b => decide (b.toNat < 128))))) (cv (.int .i64 (Lib.indexAny a b))) none) none) none) none
noncomputable def cx72 : List SV → Hs → Option (SV × Hs) := xi fun a => cv (str (Lib.itoa a))
noncomputable def cx77 : List SV → Hs → Option (SV × Hs) := xs2 fun a b => bi (Nat.ble (aaw a) (nat_lit 1000000000)) (cvT [str (Lib.cut a b).1, str (Lib.cut a b).2.1, .bool (Lib.cut a b).2.2]) none
noncomputable def cx80 : List SV → Hs → Option (SV × Hs) := xjoin
noncomputable def cx101 : List SV → Hs → Option (SV × Hs) := xs2 fun a b => bi (Nat.ble (aaw a) (nat_lit 1000000000)) (bi (Nat.ble (aaw b) (nat_lit 1000)) (bi (b.all (fun b => decide (b.toNat < 128))) (cv (str (Lib.trimS a b))) none) none) none
noncomputable def cx109 : List SV → Hs → Option (SV × Hs) := xsb fun a b => bi (Nat.ble (aaw a) (nat_lit 1000000000)) (cv (.int .i64 (lixb (fun d => Nat.beq d.toNat b.toNat) a))) none
noncomputable def cx110 : List SV → Hs → Option (SV × Hs) := xs2 fun a b => bi (Nat.ble (aaw a) (nat_lit 1000000000)) (cv (.bool (Lib.contains a b))) none
noncomputable def cx141 : List SV → Hs → Option (SV × Hs) := xsplit 9
noncomputable def cx146 : List SV → Hs → Option (SV × Hs) := xsb fun a b => cv (.int .i64 (ixb (fun d => Nat.beq d.toNat b.toNat) a))
noncomputable def cx175 : List SV → Hs → Option (SV × Hs) := xs2 fun a b => bi (Nat.ble (aaw a) (nat_lit 1000000000)) (cv (.int .i64 (Lib.index a b))) none
noncomputable def cx184 : List SV → Hs → Option (SV × Hs) := xcc 131
noncomputable def cx193 : List SV → Hs → Option (SV × Hs) := xs2 fun a b => bi (Nat.ble (aaw a) (nat_lit 1000000000)) (bi (Nat.ble (aaw b) (nat_lit 1000)) (bi (b.all (fun b => decide (b.toNat < 128))) (cv (str (Lib.trimLeftS a b))) none) none) none
noncomputable def cx198 : List SV → Hs → Option (SV × Hs) := xs2 fun a b => bi (Nat.ble (aaw a) (nat_lit 1000000000)) (bi (Nat.ble (aaw b) (nat_lit 1000)) (bi (b.all (fun b => decide (b.toNat < 128))) (cv (str (Lib.trimRightS a b))) none) none) none
noncomputable def cx239 : List SV → Hs → Option (SV × Hs) := xs2 fun a b => cvT [str (Lib.trimPrefix a b), .bool (Lib.hasPrefix a b)]
noncomputable def cx256 : List SV → Hs → Option (SV × Hs) := xs2 fun a b => cv (str (Lib.trimPrefix a b))
noncomputable def cxX (k : Nat) : Option (List SV → Hs → Option (SV × Hs)) := bi (Nat.blt k (nat_lit 141)) (bi (Nat.blt k (nat_lit 80)) (bi (Nat.blt k (nat_lit 72)) (bi (Nat.beq k (nat_lit 56)) (some cx56) (none)) (bi (Nat.blt k (nat_lit 77)) (bi (Nat.beq k (nat_lit 72)) (some cx72) (none)) (bi (Nat.beq k (nat_lit 77)) (some cx77) (none)))) (bi (Nat.blt k (nat_lit 109)) (bi (Nat.blt k (nat_lit 101)) (bi (Nat.beq k (nat_lit 80)) (some cx80) (none)) (bi (Nat.beq k (nat_lit 101)) (some cx101) (none))) (bi (Nat.blt k (nat_lit 110)) (bi (Nat.beq k (nat_lit 109)) (some cx109) (none)) (bi (Nat.beq k (nat_lit 110)) (some cx110) (none))))) (bi (Nat.blt k (nat_lit 193)) (bi (Nat.blt k (nat_lit 175)) (bi (Nat.blt k (nat_lit 146)) (bi (Nat.beq k (nat_lit 141)) (some cx141) (none)) (bi (Nat.beq k (nat_lit 146)) (some cx146) (none))) (bi (Nat.blt k (nat_lit 184)) (bi (Nat.beq k (nat_lit 175)) (some cx175) (none)) (bi (Nat.beq k (nat_lit 184)) (some cx184) (none)))) (bi (Nat.blt k (nat_lit 239)) (bi (Nat.blt k (nat_lit 198)) (bi (Nat.beq k (nat_lit 193)) (some cx193) (none)) (bi (Nat.beq k (nat_lit 198)) (some cx198) (none))) (bi (Nat.blt k (nat_lit 256)) (bi (Nat.beq k (nat_lit 239)) (some cx239) (none)) (bi (Nat.beq k (nat_lit 256)) (some cx256) (none)))))
noncomputable def cxP (k : Nat) : Bool := bi (Nat.blt k (nat_lit 153)) (bi (Nat.blt k (nat_lit 75)) (bi (Nat.blt k (nat_lit 43)) (bi (Nat.blt k (nat_lit 26)) (bi (Nat.blt k (nat_lit 10)) (bi (Nat.blt k (nat_lit 2)) (bi (Nat.blt k (nat_lit 1)) (bi (Nat.beq k (nat_lit 0)) (true) (false)) (bi (Nat.beq k (nat_lit 1)) (true) (false))) (bi (Nat.blt k (nat_lit 5)) (bi (Nat.beq k (nat_lit 2)) (true) (false)) (bi (Nat.blt k (nat_lit 9)) (bi (Nat.beq k (nat_lit 5)) (true) (false)) (bi (Nat.beq k (nat_lit 9)) (true) (false))))) (bi (Nat.blt k (nat_lit 13)) (bi (Nat.blt k (nat_lit 11)) (bi (Nat.beq k (nat_lit 10)) (true) (false)) (bi (Nat.blt k (nat_lit 12)) (bi (Nat.beq k (nat_lit 11)) (true) (false)) (bi (Nat.beq k (nat_lit 12)) (true) (false)))) (bi (Nat.blt k (nat_lit 14)) (bi (Nat.beq k (nat_lit 13)) (true) (false)) (bi (Nat.blt k (nat_lit 25)) (bi (Nat.beq k (nat_lit 14)) (true) (false)) (bi (Nat.beq k (nat_lit 25)) (true) (false)))))) (bi (Nat.blt k (nat_lit 34)) (bi (Nat.blt k (nat_lit 30)) (bi (Nat.blt k (nat_lit 27)) (bi (Nat.beq k (nat_lit 26)) (true) (false)) (bi (Nat.beq k (nat_lit 27)) (true) (false))) (bi (Nat.blt k (nat_lit 32)) (bi (Nat.beq k (nat_lit 30)) (true) (false)) (bi (Nat.blt k (nat_lit 33)) (bi (Nat.beq k (nat_lit 32)) (true) (false)) (bi (Nat.beq k (nat_lit 33)) (true) (false))))) (bi (Nat.blt k (nat_lit 37)) (bi (Nat.blt k (nat_lit 35)) (bi (Nat.beq k (nat_lit 34)) (true) (false)) (bi (Nat.blt k (nat_lit 36)) (bi (Nat.beq k (nat_lit 35)) (true) (false)) (bi (Nat.beq k (nat_lit 36)) (true) (false)))) (bi (Nat.blt k (nat_lit 38)) (bi (Nat.beq k (nat_lit 37)) (true) (false)) (bi (Nat.blt k (nat_lit 42)) (bi (Nat.beq k (nat_lit 38)) (true) (false)) (bi (Nat.beq k (nat_lit 42)) (true) (false))))))) (bi (Nat.blt k (nat_lit 58)) (bi (Nat.blt k (nat_lit 51)) (bi (Nat.blt k (nat_lit 45)) (bi (Nat.blt k (nat_lit 44)) (bi (Nat.beq k (nat_lit 43)) (true) (false)) (bi (Nat.beq k (nat_lit 44)) (true) (false))) (bi (Nat.blt k (nat_lit 47)) (bi (Nat.beq k (nat_lit 45)) (true) (false)) (bi (Nat.blt k (nat_lit 48)) (bi (Nat.beq k (nat_lit 47)) (true) (false)) (bi (Nat.beq k (nat_lit 48)) (true) (false))))) (bi (Nat.blt k (nat_lit 55)) (bi (Nat.blt k (nat_lit 53)) (bi (Nat.beq k (nat_lit 51)) (true) (false)) (bi (Nat.blt k (nat_lit 54)) (bi (Nat.beq k (nat_lit 53)) (true) (false)) (bi (Nat.beq k (nat_lit 54)) (true) (false)))) (bi (Nat.blt k (nat_lit 56)) (bi (Nat.beq k (nat_lit 55)) (true) (false)) (bi (Nat.blt k (nat_lit 57)) (bi (Nat.beq k (nat_lit 56)) (true) (false)) (bi (Nat.beq k (nat_lit 57)) (true) (false)))))) (bi (Nat.blt k (nat_lit 64)) (bi (Nat.blt k (nat_lit 61)) (bi (Nat.blt k (nat_lit 60)) (bi (Nat.beq k (nat_lit 58)) (true) (false)) (bi (Nat.beq k (nat_lit 60)) (true) (false))) (bi (Nat.blt k (nat_lit 62)) (bi (Nat.beq k (nat_lit 61)) (true) (false)) (bi (Nat.blt k (nat_lit 63)) (bi (Nat.beq k (nat_lit 62)) (true) (false)) (bi (Nat.beq k (nat_lit 63)) (true) (false))))) (bi (Nat.blt k (nat_lit 69)) (bi (Nat.blt k (nat_lit 65)) (bi (Nat.beq k (nat_lit 64)) (true) (false)) (bi (Nat.blt k (nat_lit 66)) (bi (Nat.beq k (nat_lit 65)) (true) (false)) (bi (Nat.beq k (nat_lit 66)) (true) (false)))) (bi (Nat.blt k (nat_lit 72)) (bi (Nat.beq k (nat_lit 69)) (true) (false)) (bi (Nat.blt k (nat_lit 73)) (bi (Nat.beq k (nat_lit 72)) (true) (false)) (bi (Nat.beq k (nat_lit 73)) (true) (false)))))))) (bi (Nat.blt k (nat_lit 110)) (bi (Nat.blt k (nat_lit 88)) (bi (Nat.blt k (nat_lit 81)) (bi (Nat.blt k (nat_lit 77)) (bi (Nat.blt k (nat_lit 76)) (bi (Nat.beq k (nat_lit 75)) (true) (false)) (bi (Nat.beq k (nat_lit 76)) (true) (false))) (bi (Nat.blt k (nat_lit 78)) (bi (Nat.beq k (nat_lit 77)) (true) (false)) (bi (Nat.blt k (nat_lit 79)) (bi (Nat.beq k (nat_lit 78)) (true) (false)) (bi (Nat.beq k (nat_lit 79)) (true) (false))))) (bi (Nat.blt k (nat_lit 84)) (bi (Nat.blt k (nat_lit 82)) (bi (Nat.beq k (nat_lit 81)) (true) (false)) (bi (Nat.blt k (nat_lit 83)) (bi (Nat.beq k (nat_lit 82)) (true) (false)) (bi (Nat.beq k (nat_lit 83)) (true) (false)))) (bi (Nat.blt k (nat_lit 86)) (bi (Nat.beq k (nat_lit 84)) (true) (false)) (bi (Nat.blt k (nat_lit 87)) (bi (Nat.beq k (nat_lit 86)) (true) (false)) (bi (Nat.beq k (nat_lit 87)) (true) (false)))))) (bi (Nat.blt k (nat_lit 103)) (bi (Nat.blt k (nat_lit 91)) (bi (Nat.blt k (nat_lit 90)) (bi (Nat.beq k (nat_lit 88)) (true) (false)) (bi (Nat.beq k (nat_lit 90)) (true) (false))) (bi (Nat.blt k (nat_lit 99)) (bi (Nat.beq k (nat_lit 91)) (true) (false)) (bi (Nat.blt k (nat_lit 101)) (bi (Nat.beq k (nat_lit 99)) (true) (false)) (bi (Nat.beq k (nat_lit 101)) (true) (false))))) (bi (Nat.blt k (nat_lit 106)) (bi (Nat.blt k (nat_lit 104)) (bi (Nat.beq k (nat_lit 103)) (true) (false)) (bi (Nat.blt k (nat_lit 105)) (bi (Nat.beq k (nat_lit 104)) (true) (false)) (bi (Nat.beq k (nat_lit 105)) (true) (false)))) (bi (Nat.blt k (nat_lit 107)) (bi (Nat.beq k (nat_lit 106)) (true) (false)) (bi (Nat.blt k (nat_lit 109)) (bi (Nat.beq k (nat_lit 107)) (true) (false)) (bi (Nat.beq k (nat_lit 109)) (true) (false))))))) (bi (Nat.blt k (nat_lit 134)) (bi (Nat.blt k (nat_lit 121)) (bi (Nat.blt k (nat_lit 117)) (bi (Nat.blt k (nat_lit 116)) (bi (Nat.beq k (nat_lit 110)) (true) (false)) (bi (Nat.beq k (nat_lit 116)) (true) (false))) (bi (Nat.blt k (nat_lit 119)) (bi (Nat.beq k (nat_lit 117)) (true) (false)) (bi (Nat.blt k (nat_lit 120)) (bi (Nat.beq k (nat_lit 119)) (true) (false)) (bi (Nat.beq k (nat_lit 120)) (true) (false))))) (bi (Nat.blt k (nat_lit 131)) (bi (Nat.blt k (nat_lit 122)) (bi (Nat.beq k (nat_lit 121)) (true) (false)) (bi (Nat.blt k (nat_lit 130)) (bi (Nat.beq k (nat_lit 122)) (true) (false)) (bi (Nat.beq k (nat_lit 130)) (true) (false)))) (bi (Nat.blt k (nat_lit 132)) (bi (Nat.beq k (nat_lit 131)) (true) (false)) (bi (Nat.blt k (nat_lit 133)) (bi (Nat.beq k (nat_lit 132)) (true) (false)) (bi (Nat.beq k (nat_lit 133)) (true) (false)))))) (bi (Nat.blt k (nat_lit 142)) (bi (Nat.blt k (nat_lit 136)) (bi (Nat.blt k (nat_lit 135)) (bi (Nat.beq k (nat_lit 134)) (true) (false)) (bi (Nat.beq k (nat_lit 135)) (true) (false))) (bi (Nat.blt k (nat_lit 137)) (bi (Nat.beq k (nat_lit 136)) (true) (false)) (bi (Nat.blt k (nat_lit 138)) (bi (Nat.beq k (nat_lit 137)) (true) (false)) (bi (Nat.beq k (nat_lit 138)) (true) (false))))) (bi (Nat.blt k (nat_lit 146)) (bi (Nat.blt k (nat_lit 144)) (bi (Nat.beq k (nat_lit 142)) (true) (false)) (bi (Nat.blt k (nat_lit 145)) (bi (Nat.beq k (nat_lit 144)) (true) (false)) (bi (Nat.beq k (nat_lit 145)) (true) (false)))) (bi (Nat.blt k (nat_lit 147)) (bi (Nat.beq k (nat_lit 146)) (true) (false)) (bi (Nat.blt k (nat_lit 151)) (bi (Nat.beq k (nat_lit 147)) (true) (false)) (bi (Nat.beq k (nat_lit 151)) (true) (false))))))))) (bi (Nat.blt k (nat_lit 228)) (bi (Nat.blt k (nat_lit 189)) (bi (Nat.blt k (nat_lit 172)) (bi (Nat.blt k (nat_lit 164)) (bi (Nat.blt k (nat_lit 160)) (bi (Nat.blt k (nat_lit 156)) (bi (Nat.beq k (nat_lit 153)) (true) (false)) (bi (Nat.beq k (nat_lit 156)) (true) (false))) (bi (Nat.blt k (nat_lit 161)) (bi (Nat.beq k (nat_lit 160)) (true) (false)) (bi (Nat.blt k (nat_lit 162)) (bi (Nat.beq k (nat_lit 161)) (true) (false)) (bi (Nat.beq k (nat_lit 162)) (true) (false))))) (bi (Nat.blt k (nat_lit 169)) (bi (Nat.blt k (nat_lit 165)) (bi (Nat.beq k (nat_lit 164)) (true) (false)) (bi (Nat.blt k (nat_lit 166)) (bi (Nat.beq k (nat_lit 165)) (true) (false)) (bi (Nat.beq k (nat_lit 166)) (true) (false)))) (bi (Nat.blt k (nat_lit 170)) (bi (Nat.beq k (nat_lit 169)) (true) (false)) (bi (Nat.blt k (nat_lit 171)) (bi (Nat.beq k (nat_lit 170)) (true) (false)) (bi (Nat.beq k (nat_lit 171)) (true) (false)))))) (bi (Nat.blt k (nat_lit 178)) (bi (Nat.blt k (nat_lit 174)) (bi (Nat.blt k (nat_lit 173)) (bi (Nat.beq k (nat_lit 172)) (true) (false)) (bi (Nat.beq k (nat_lit 173)) (true) (false))) (bi (Nat.blt k (nat_lit 175)) (bi (Nat.beq k (nat_lit 174)) (true) (false)) (bi (Nat.blt k (nat_lit 177)) (bi (Nat.beq k (nat_lit 175)) (true) (false)) (bi (Nat.beq k (nat_lit 177)) (true) (false))))) (bi (Nat.blt k (nat_lit 181)) (bi (Nat.blt k (nat_lit 179)) (bi (Nat.beq k (nat_lit 178)) (true) (false)) (bi (Nat.blt k (nat_lit 180)) (bi (Nat.beq k (nat_lit 179)) (true) (false)) (bi (Nat.beq k (nat_lit 180)) (true) (false)))) (bi (Nat.blt k (nat_lit 187)) (bi (Nat.beq k (nat_lit 181)) (true) (false)) (bi (Nat.blt k (nat_lit 188)) (bi (Nat.beq k (nat_lit 187)) (true) (false)) (bi (Nat.beq k (nat_lit 188)) (true) (false))))))) (bi (Nat.blt k (nat_lit 208)) (bi (Nat.blt k (nat_lit 197)) (bi (Nat.blt k (nat_lit 192)) (bi (Nat.blt k (nat_lit 190)) (bi (Nat.beq k (nat_lit 189)) (true) (false)) (bi (Nat.beq k (nat_lit 190)) (true) (false))) (bi (Nat.blt k (nat_lit 193)) (bi (Nat.beq k (nat_lit 192)) (true) (false)) (bi (Nat.blt k (nat_lit 196)) (bi (Nat.beq k (nat_lit 193)) (true) (false)) (bi (Nat.beq k (nat_lit 196)) (true) (false))))) (bi (Nat.blt k (nat_lit 202)) (bi (Nat.blt k (nat_lit 198)) (bi (Nat.beq k (nat_lit 197)) (true) (false)) (bi (Nat.blt k (nat_lit 201)) (bi (Nat.beq k (nat_lit 198)) (true) (false)) (bi (Nat.beq k (nat_lit 201)) (true) (false)))) (bi (Nat.blt k (nat_lit 204)) (bi (Nat.beq k (nat_lit 202)) (true) (false)) (bi (Nat.blt k (nat_lit 207)) (bi (Nat.beq k (nat_lit 204)) (true) (false)) (bi (Nat.beq k (nat_lit 207)) (true) (false)))))) (bi (Nat.blt k (nat_lit 214)) (bi (Nat.blt k (nat_lit 211)) (bi (Nat.blt k (nat_lit 210)) (bi (Nat.beq k (nat_lit 208)) (true) (false)) (bi (Nat.beq k (nat_lit 210)) (true) (false))) (bi (Nat.blt k (nat_lit 212)) (bi (Nat.beq k (nat_lit 211)) (true) (false)) (bi (Nat.blt k (nat_lit 213)) (bi (Nat.beq k (nat_lit 212)) (true) (false)) (bi (Nat.beq k (nat_lit 213)) (true) (false))))) (bi (Nat.blt k (nat_lit 220)) (bi (Nat.blt k (nat_lit 215)) (bi (Nat.beq k (nat_lit 214)) (true) (false)) (bi (Nat.blt k (nat_lit 219)) (bi (Nat.beq k (nat_lit 215)) (true) (false)) (bi (Nat.beq k (nat_lit 219)) (true) (false)))) (bi (Nat.blt k (nat_lit 223)) (bi (Nat.beq k (nat_lit 220)) (true) (false)) (bi (Nat.blt k (nat_lit 226)) (bi (Nat.beq k (nat_lit 223)) (true) (false)) (bi (Nat.beq k (nat_lit 226)) (true) (false)))))))) (bi (Nat.blt k (nat_lit 267)) (bi (Nat.blt k (nat_lit 250)) (bi (Nat.blt k (nat_lit 244)) (bi (Nat.blt k (nat_lit 239)) (bi (Nat.blt k (nat_lit 238)) (bi (Nat.beq k (nat_lit 228)) (true) (false)) (bi (Nat.beq k (nat_lit 238)) (true) (false))) (bi (Nat.blt k (nat_lit 240)) (bi (Nat.beq k (nat_lit 239)) (true) (false)) (bi (Nat.blt k (nat_lit 243)) (bi (Nat.beq k (nat_lit 240)) (true) (false)) (bi (Nat.beq k (nat_lit 243)) (true) (false))))) (bi (Nat.blt k (nat_lit 247)) (bi (Nat.blt k (nat_lit 245)) (bi (Nat.beq k (nat_lit 244)) (true) (false)) (bi (Nat.blt k (nat_lit 246)) (bi (Nat.beq k (nat_lit 245)) (true) (false)) (bi (Nat.beq k (nat_lit 246)) (true) (false)))) (bi (Nat.blt k (nat_lit 248)) (bi (Nat.beq k (nat_lit 247)) (true) (false)) (bi (Nat.blt k (nat_lit 249)) (bi (Nat.beq k (nat_lit 248)) (true) (false)) (bi (Nat.beq k (nat_lit 249)) (true) (false)))))) (bi (Nat.blt k (nat_lit 256)) (bi (Nat.blt k (nat_lit 252)) (bi (Nat.blt k (nat_lit 251)) (bi (Nat.beq k (nat_lit 250)) (true) (false)) (bi (Nat.beq k (nat_lit 251)) (true) (false))) (bi (Nat.blt k (nat_lit 253)) (bi (Nat.beq k (nat_lit 252)) (true) (false)) (bi (Nat.blt k (nat_lit 255)) (bi (Nat.beq k (nat_lit 253)) (true) (false)) (bi (Nat.beq k (nat_lit 255)) (true) (false))))) (bi (Nat.blt k (nat_lit 264)) (bi (Nat.blt k (nat_lit 261)) (bi (Nat.beq k (nat_lit 256)) (true) (false)) (bi (Nat.blt k (nat_lit 263)) (bi (Nat.beq k (nat_lit 261)) (true) (false)) (bi (Nat.beq k (nat_lit 263)) (true) (false)))) (bi (Nat.blt k (nat_lit 265)) (bi (Nat.beq k (nat_lit 264)) (true) (false)) (bi (Nat.blt k (nat_lit 266)) (bi (Nat.beq k (nat_lit 265)) (true) (false)) (bi (Nat.beq k (nat_lit 266)) (true) (false))))))) (bi (Nat.blt k (nat_lit 287)) (bi (Nat.blt k (nat_lit 273)) (bi (Nat.blt k (nat_lit 269)) (bi (Nat.blt k (nat_lit 268)) (bi (Nat.beq k (nat_lit 267)) (true) (false)) (bi (Nat.beq k (nat_lit 268)) (true) (false))) (bi (Nat.blt k (nat_lit 271)) (bi (Nat.beq k (nat_lit 269)) (true) (false)) (bi (Nat.blt k (nat_lit 272)) (bi (Nat.beq k (nat_lit 271)) (true) (false)) (bi (Nat.beq k (nat_lit 272)) (true) (false))))) (bi (Nat.blt k (nat_lit 276)) (bi (Nat.blt k (nat_lit 274)) (bi (Nat.beq k (nat_lit 273)) (true) (false)) (bi (Nat.blt k (nat_lit 275)) (bi (Nat.beq k (nat_lit 274)) (true) (false)) (bi (Nat.beq k (nat_lit 275)) (true) (false)))) (bi (Nat.blt k (nat_lit 277)) (bi (Nat.beq k (nat_lit 276)) (true) (false)) (bi (Nat.blt k (nat_lit 278)) (bi (Nat.beq k (nat_lit 277)) (true) (false)) (bi (Nat.beq k (nat_lit 278)) (true) (false)))))) (bi (Nat.blt k (nat_lit 293)) (bi (Nat.blt k (nat_lit 290)) (bi (Nat.blt k (nat_lit 288)) (bi (Nat.beq k (nat_lit 287)) (true) (false)) (bi (Nat.blt k (nat_lit 289)) (bi (Nat.beq k (nat_lit 288)) (true) (false)) (bi (Nat.beq k (nat_lit 289)) (true) (false)))) (bi (Nat.blt k (nat_lit 291)) (bi (Nat.beq k (nat_lit 290)) (true) (false)) (bi (Nat.blt k (nat_lit 292)) (bi (Nat.beq k (nat_lit 291)) (true) (false)) (bi (Nat.beq k (nat_lit 292)) (true) (false))))) (bi (Nat.blt k (nat_lit 296)) (bi (Nat.blt k (nat_lit 294)) (bi (Nat.beq k (nat_lit 293)) (true) (false)) (bi (Nat.blt k (nat_lit 295)) (bi (Nat.beq k (nat_lit 294)) (true) (false)) (bi (Nat.beq k (nat_lit 295)) (true) (false)))) (bi (Nat.blt k (nat_lit 297)) (bi (Nat.beq k (nat_lit 296)) (true) (false)) (bi (Nat.blt k (nat_lit 298)) (bi (Nat.beq k (nat_lit 297)) (true) (false)) (bi (Nat.beq k (nat_lit 298)) (true) (false)))))))))
noncomputable def cx : Cx := ⟨Tryz.prog, cxG, cxX, cxP⟩
theorem cx_g {w : World} (hG : Gl w) : Gok cxG w := by
  intro g cs h
  unfold cxG at h
  rw [aae] at h
  split at h
  · rename_i hk
    rw [aad] at hk
    have hk : g = 0 := hk
    subst hk
    cases h
    obtain ⟨t, f, e⟩ := hG.specials
    exact ⟨okL_ok (show okL 0 cg0 = true by kernel_rfl), t, f, fun E => by rw [e]; kernel_rfl⟩
  rw [aae] at h
  split at h
  · rename_i hk
    rw [aad] at hk
    have hk : g = 1 := hk
    subst hk
    cases h
    obtain ⟨t, f, e⟩ := hG.kinds
    exact ⟨okL_ok (show okL 0 cg1 = true by kernel_rfl), t, f, fun E => by rw [e]; kernel_rfl⟩
  rw [aae] at h
  split at h
  · rename_i hk
    rw [aad] at hk
    have hk : g = 3 := hk
    subst hk
    cases h
    obtain ⟨t, f, e⟩ := hG.classes
    exact ⟨okL_ok (show okL 0 cg3 = true by kernel_rfl), t, f, fun E => by rw [e]; kernel_rfl⟩
  cases h
theorem cx_names : (Tryz.prog.funcs.all fun fn => !(fn.name == "runtime.NumGoroutine")) = true := by kernel_rfl
theorem cx_ok : Cok cx Gl where
  gp := fun h hp => h.hp0 hp
  g := cx_g
  ng := fun f fn h => by
    have h1 := Array.all_eq_true'.1 cx_names fn (Array.mem_of_getElem? h)
    simpa using h1
  mo := by kernel_rfl
theorem ent_56 : Go.Wk.Enters cx.P 56 := ⟨Tryz.f56, _, Tryz.func56, rfl, by kernel_rfl⟩
theorem cx56_ok (hC : Cok cx Gl) : aal cx Gl cx56 56 := xs2_ok hC ent_56 fun a b v h => by
  obtain ⟨h1, h⟩ := aab h; rw [aac, aaf] at h1; obtain ⟨h2, h⟩ := aab h; rw [aac, aaf] at h2; obtain ⟨h3, h⟩ := aab h; obtain ⟨h4, h⟩ := aab h; simp only [Bool.or_eq_true, aac, aaf] at h4; exact ⟨cv_pl h, fun E w hG => CR.mono (sh_IndexAny a b w ⟨h1, h2, h3, h4⟩) fun V w' hv => ⟨hv.1.trans (cv_ok h E 0).1.symm, hv.2⟩⟩
theorem ent_72 : Go.Wk.Enters cx.P 72 := ⟨Tryz.f72, _, Tryz.func72, rfl, by kernel_rfl⟩
theorem cx72_ok (hC : Cok cx Gl) : aal cx Gl cx72 72 := xi_ok hC ent_72 fun a v h => by
  exact ⟨cv_pl h, fun E w hG hb => CR.mono (sh_Itoa a w hb hG) fun V w' hv => ⟨hv.1.trans (cv_ok h E 0).1.symm, hv.2⟩⟩
theorem ent_77 : Go.Wk.Enters cx.P 77 := ⟨Tryz.f77, _, Tryz.func77, rfl, by kernel_rfl⟩
theorem cx77_ok (hC : Cok cx Gl) : aal cx Gl cx77 77 := xs2_ok hC ent_77 fun a b v h => by
  obtain ⟨h1, h⟩ := aab h; rw [aac, aaf] at h1; exact ⟨(cvT_ok h (fun _ => (0, 0))).2, fun E w hG => CR.mono (sh_Cut a b w h1 hG) fun V w' hv => ⟨hv.1.trans (cvT_ok h E).1.symm, hv.2⟩⟩
theorem ent_80 : Go.Wk.Enters cx.P 80 := ⟨Tryz.f80, _, Tryz.func80, rfl, by kernel_rfl⟩
theorem cx80_ok (hC : Cok cx Gl) : aal cx Gl cx80 80 := xjoin_ok hC ent_80 fun t w a n cap xs h1 h2 h3 h4 => sh_Join t w a n cap xs h1 h2 h3 h4
theorem ent_101 : Go.Wk.Enters cx.P 101 := ⟨Tryz.f101, _, Tryz.func101, rfl, by kernel_rfl⟩
theorem cx101_ok (hC : Cok cx Gl) : aal cx Gl cx101 101 := xs2_ok hC ent_101 fun a b v h => by
  obtain ⟨h1, h⟩ := aab h; rw [aac, aaf] at h1; obtain ⟨h2, h⟩ := aab h; rw [aac, aaf] at h2; obtain ⟨h3, h⟩ := aab h; exact ⟨cv_pl h, fun E w hG => CR.mono (sh_Trim a b w h1 ⟨h2, h3⟩) fun V w' hv => ⟨hv.1.trans (cv_ok h E 0).1.symm, hv.2⟩⟩
theorem ent_109 : Go.Wk.Enters cx.P 109 := ⟨Tryz.f109, _, Tryz.func109, rfl, by kernel_rfl⟩
theorem cx109_ok (hC : Cok cx Gl) : aal cx Gl cx109 109 := xsb_ok hC ent_109 fun a b v h => by
  obtain ⟨h1, h⟩ := aab h; rw [aac, aaf] at h1; exact ⟨cv_pl h, fun E w hG => CR.mono (sh_LastIndexByte a b w h1) fun V w' hv => ⟨hv.1.trans (by rw [(cv_ok h E 0).1, beqn]), hv.2⟩⟩
theorem ent_110 : Go.Wk.Enters cx.P 110 := ⟨Tryz.f110, _, Tryz.func110, rfl, by kernel_rfl⟩
theorem cx110_ok (hC : Cok cx Gl) : aal cx Gl cx110 110 := xs2_ok hC ent_110 fun a b v h => by
  obtain ⟨h1, h⟩ := aab h; rw [aac, aaf] at h1; exact ⟨cv_pl h, fun E w hG => CR.mono (sh_Contains a b w h1 hG) fun V w' hv => ⟨hv.1.trans (cv_ok h E 0).1.symm, hv.2⟩⟩
theorem ent_141 : Go.Wk.Enters cx.P 141 := ⟨Tryz.f141, _, Tryz.func141, rfl, by kernel_rfl⟩
theorem cx141_ok (hC : Cok cx Gl) : aal cx Gl cx141 141 := xsplit_ok hC ent_141 fun s c w hG h => sh_Split s c w h hG
theorem ent_146 : Go.Wk.Enters cx.P 146 := ⟨Tryz.f146, _, Tryz.func146, rfl, by kernel_rfl⟩
theorem cx146_ok (hC : Cok cx Gl) : aal cx Gl cx146 146 := xsb_ok hC ent_146 fun a b v h => by
  exact ⟨cv_pl h, fun E w hG => CR.mono (sh_IndexByte a b w) fun V w' hv => ⟨hv.1.trans (by rw [(cv_ok h E 0).1, beqn]), hv.2⟩⟩
theorem ent_175 : Go.Wk.Enters cx.P 175 := ⟨Tryz.f175, _, Tryz.func175, rfl, by kernel_rfl⟩
theorem cx175_ok (hC : Cok cx Gl) : aal cx Gl cx175 175 := xs2_ok hC ent_175 fun a b v h => by
  obtain ⟨h1, h⟩ := aab h; rw [aac, aaf] at h1; exact ⟨cv_pl h, fun E w hG => CR.mono (sh_Index a b w h1 hG) fun V w' hv => ⟨hv.1.trans (cv_ok h E 0).1.symm, hv.2⟩⟩
theorem ent_184 : Go.Wk.Enters cx.P 184 := ⟨Tryz.f184, _, Tryz.func184, rfl, by kernel_rfl⟩
theorem cx184_ok (hC : Cok cx Gl) : aal cx Gl cx184 184 := xcc_ok hC ent_184 fun b z s w h => sh_copyCheck b z s w h
theorem ent_193 : Go.Wk.Enters cx.P 193 := ⟨Tryz.f193, _, Tryz.func193, rfl, by kernel_rfl⟩
theorem cx193_ok (hC : Cok cx Gl) : aal cx Gl cx193 193 := xs2_ok hC ent_193 fun a b v h => by
  obtain ⟨h1, h⟩ := aab h; rw [aac, aaf] at h1; obtain ⟨h2, h⟩ := aab h; rw [aac, aaf] at h2; obtain ⟨h3, h⟩ := aab h; exact ⟨cv_pl h, fun E w hG => CR.mono (sh_TrimLeft a b w h1 ⟨h2, h3⟩) fun V w' hv => ⟨hv.1.trans (cv_ok h E 0).1.symm, hv.2⟩⟩
theorem ent_198 : Go.Wk.Enters cx.P 198 := ⟨Tryz.f198, _, Tryz.func198, rfl, by kernel_rfl⟩
theorem cx198_ok (hC : Cok cx Gl) : aal cx Gl cx198 198 := xs2_ok hC ent_198 fun a b v h => by
  obtain ⟨h1, h⟩ := aab h; rw [aac, aaf] at h1; obtain ⟨h2, h⟩ := aab h; rw [aac, aaf] at h2; obtain ⟨h3, h⟩ := aab h; exact ⟨cv_pl h, fun E w hG => CR.mono (sh_TrimRight a b w h1 ⟨h2, h3⟩) fun V w' hv => ⟨hv.1.trans (cv_ok h E 0).1.symm, hv.2⟩⟩
theorem ent_239 : Go.Wk.Enters cx.P 239 := ⟨Tryz.f239, _, Tryz.func239, rfl, by kernel_rfl⟩
theorem cx239_ok (hC : Cok cx Gl) : aal cx Gl cx239 239 := xs2_ok hC ent_239 fun a b v h => by
  exact ⟨(cvT_ok h (fun _ => (0, 0))).2, fun E w hG => CR.mono (sh_CutPrefix a b w) fun V w' hv => ⟨hv.1.trans (cvT_ok h E).1.symm, hv.2⟩⟩
theorem ent_256 : Go.Wk.Enters cx.P 256 := ⟨Tryz.f256, _, Tryz.func256, rfl, by kernel_rfl⟩
theorem cx256_ok (hC : Cok cx Gl) : aal cx Gl cx256 256 := xs2_ok hC ent_256 fun a b v h => by
  exact ⟨cv_pl h, fun E w hG => CR.mono (sh_TrimPrefix a b w) fun V w' hv => ⟨hv.1.trans (cv_ok h E 0).1.symm, hv.2⟩⟩
theorem cx_x : Xok cx Gl := by
  intro k f h
  have h : cxX k = some f := h
  unfold cxX at h
  rw [aae] at h
  split at h
  · rw [aae] at h
    split at h
    · rw [aae] at h
      split at h
      · rw [aae] at h
        split at h
        · rename_i hk
          rw [aad] at hk
          have hk : k = 56 := hk
          subst hk
          cases h
          exact cx56_ok cx_ok
        · cases h
      · rw [aae] at h
        split at h
        · rw [aae] at h
          split at h
          · rename_i hk
            rw [aad] at hk
            have hk : k = 72 := hk
            subst hk
            cases h
            exact cx72_ok cx_ok
          · cases h
        · rw [aae] at h
          split at h
          · rename_i hk
            rw [aad] at hk
            have hk : k = 77 := hk
            subst hk
            cases h
            exact cx77_ok cx_ok
          · cases h
    · rw [aae] at h
      split at h
      · rw [aae] at h
        split at h
        · rw [aae] at h
          split at h
          · rename_i hk
            rw [aad] at hk
            have hk : k = 80 := hk
            subst hk
            cases h
            exact cx80_ok cx_ok
          · cases h
        · rw [aae] at h
          split at h
          · rename_i hk
            rw [aad] at hk
            have hk : k = 101 := hk
            subst hk
            cases h
            exact cx101_ok cx_ok
          · cases h
      · rw [aae] at h
        split at h
        · rw [aae] at h
          split at h
          · rename_i hk
            rw [aad] at hk
            have hk : k = 109 := hk
            subst hk
            cases h
            exact cx109_ok cx_ok
          · cases h
        · rw [aae] at h
          split at h
          · rename_i hk
            rw [aad] at hk
            have hk : k = 110 := hk
            subst hk
            cases h
            exact cx110_ok cx_ok
          · cases h
  · rw [aae] at h
    split at h
    · rw [aae] at h
      split at h
      · rw [aae] at h
        split at h
        · rw [aae] at h
          split at h
          · rename_i hk
            rw [aad] at hk
            have hk : k = 141 := hk
            subst hk
            cases h
            exact cx141_ok cx_ok
          · cases h
        · rw [aae] at h
          split at h
          · rename_i hk
            rw [aad] at hk
            have hk : k = 146 := hk
            subst hk
            cases h
            exact cx146_ok cx_ok
          · cases h
      · rw [aae] at h
        split at h
        · rw [aae] at h
          split at h
          · rename_i hk
            rw [aad] at hk
            have hk : k = 175 := hk
            subst hk
            cases h
            exact cx175_ok cx_ok
          · cases h
        · rw [aae] at h
          split at h
          · rename_i hk
            rw [aad] at hk
            have hk : k = 184 := hk
            subst hk
            cases h
            exact cx184_ok cx_ok
          · cases h
    · rw [aae] at h
      split at h
      · rw [aae] at h
        split at h
        · rw [aae] at h
          split at h
          · rename_i hk
            rw [aad] at hk
            have hk : k = 193 := hk
            subst hk
            cases h
            exact cx193_ok cx_ok
          · cases h
        · rw [aae] at h
          split at h
          · rename_i hk
            rw [aad] at hk
            have hk : k = 198 := hk
            subst hk
            cases h
            exact cx198_ok cx_ok
          · cases h
      · rw [aae] at h
        split at h
        · rw [aae] at h
          split at h
          · rename_i hk
            rw [aad] at hk
            have hk : k = 239 := hk
            subst hk
            cases h
            exact cx239_ok cx_ok
          · cases h
        · rw [aae] at h
          split at h
          · rename_i hk
            rw [aad] at hk
            have hk : k = 256 := hk
            subst hk
            cases h
            exact cx256_ok cx_ok
          · cases h
theorem closed {n k : Nat} (h : isT ((lev cx n).call k [] H0) = true) {w : World} (hG : Gl w) : Go.Wk.Enters Tryz.prog k ∧ CR Tryz.prog k [] w fun V w' => V = .bool true ∧ Hp w [] [] w' :=
  let ⟨H', h⟩ := isT_ok h
  run_says cx_ok cx_x h rfl rfl hG (fun _ => (0, 0))
end Go.Proofs
