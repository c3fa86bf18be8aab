/-
  The law HeaderElements holds: for every list of numbers and every number of blanks the call returns true; no condition beyond the statement's own (part 2 of 8).
-/
import Derived.Test.YtbfppjfgcjpknaaGreatDoorHe1
import Derived.Shelf.Strings.Builder1
import Derived.Shelf.Strings.Builder2
import Derived.Shelf.Strings.OnBuilder
import Derived.Shelf.Strings.Trim
import Derived.Shelf.Small.Utf8
import Derived.Shelf.Small.Strs
import Derived.Shelf.Small.Wraps
import Derived.Shelf.Strings.BuilderF
import Derived.Shelf.Strings.BuilderK
import Derived.Shelf.Utf8.RuneCount
import Derived.Shelf.Strings.Builder2Cap
import Derived.Shelf.Strconv.Itoa0
import Derived.Shelf.Strconv.Itoa1
import Derived.Shelf.LaysM
import Derived.Shelf.Strconv.Itoa2
import Derived.Shelf.Strconv.Itoa3
import Derived.Shelf.Strings.Search1
import Derived.Shelf.Strings.Search2
import Derived.Shelf.Strings.Search3
import Derived.Shelf.Strings.Cut
import Derived.Shelf.Strings.Count
import Derived.Shelf.Strings.Shaped
import Derived.Shelf.Strings.LastIndex
import Derived.Shelf.Strings.Prefix
import Derived.Shelf.Strings.Split
import Derived.Shelf.Strings.SplitShaped
import Derived.Shelf.Unicode.Decode
import Derived.Shelf.Strings.Runes
import Derived.Shelf.Strings.RuneCount
import Derived.Shelf.Strings.IndexAny
import Derived.Shelf.Strings.AsciiSet
import Derived.Shelf.Strings.IndexAnyAll
import Derived.Shelf.Strings.Explode
import Derived.Shelf.Unicode.DecodeSlow
import Derived.Shelf.Unicode.DecodeAny
import Derived.Shelf.Unicode.DecodeLast
import Derived.Shelf.Strings.BuilderCap
import Derived.Ground.PaProg
import Derived.Shelf.Path.Small
import Derived.Test.YtbfppjfgcjpknaaGreatDoorProg
import Derived.Shelf.Strings.SlTrimAscii
namespace Go.Proofs
open Go.Shelf
def Tryz.lays169_ren : Go.Shelf.Ren := ⟨fun | 169 => 127 | n => n, fun | 70 => 129 | 9 => 9 | 0 => 0 | 72 => 131 | 37 => 92 | 127 => 178 | 3 => 3 | 5 => 5 | n => n, fun | n => n⟩
theorem Tryz.lays169 : Go.Proofs.Lays.n169 Tryz.prog Tryz.lays169_ren := {
  mixed := by kernel_rfl
  f169 := Tryz.func127.trans (congrArg some (by kernel_rfl))
  t0 := Tryz.underlying0
  a0 := Tryz.isAgg0
  z0 := Tryz.sizeOf0
  v0 := Tryz.zeroValue0
  t3 := Tryz.underlying3
  a3 := Tryz.isAgg3
  z3 := Tryz.sizeOf3
  v3 := Tryz.zeroValue3
  t9 := Tryz.underlying9
  a9 := Tryz.isAgg9
  z9 := Tryz.sizeOf9
  v9 := Tryz.zeroValue9
  t37 := Tryz.underlying92
  a37 := Tryz.isAgg92
  z37 := Tryz.sizeOf92
  v37 := Tryz.zeroValue92
  t70 := Tryz.underlying129
  a70 := Tryz.isAgg129
  z70 := Tryz.sizeOf129
  v70 := Tryz.zeroValue129
  t72 := Tryz.underlying131
  a72 := Tryz.isAgg131
  z72 := Tryz.sizeOf131
  v72 := Tryz.zeroValue131
  t127 := Tryz.underlying178
  a127 := Tryz.isAgg178
  z127 := Tryz.sizeOf178
  v127 := Tryz.zeroValue178 }
theorem Tryz.Builder_Extra_169 : Builder.Extra Tryz.prog Tryz.lays169_ren := {
  sizeBuilder := by kernel_rfl
  liesBuilder := by kernel_rfl
  t5 := Tryz.underlying5
  a5 := Tryz.isAgg5
  z5 := Tryz.sizeOf5
  v5 := Tryz.zeroValue5
  infoByte := by kernel_rfl
  cellsByte := by kernel_rfl
  sizeByte := by kernel_rfl
  neB5 := by decide }
open Go.RowKit in
theorem Tryz.Builder_String_any (B b : Nat) (l : List UInt8) (w : World) (h : Lib.IsBuilder 131 5 B b (Lib.byteCells l) w) (hBw : B ≤ w.heap.size) :
    Calls Tryz.prog 127 #[.pointer (some ⟨b, 0, none⟩)] w fun e w' => e = .returned (.string ⟨l.toArray⟩) ∧ Below B w w' := Any.Builder_String_any Tryz.lays169 Tryz.Builder_Extra_169 B b l w h hBw
def Tryz.lays156_ren : Go.Shelf.Ren := ⟨fun | 156 => 80 | 165 => 139 | 166 => 126 | 169 => 127 | 240 => 184 | 241 => 191 | 276 => 217 | 277 => 224 | n => n, fun | 31 => 54 | 9 => 9 | 3 => 3 | 4 => 4 | 0 => 0 | 20 => 20 | 72 => 131 | 76 => 135 | 70 => 129 | 37 => 92 | 75 => 134 | 127 => 178 | 164 => 201 | 5 => 5 | 80 => 137 | n => n, fun | n => n⟩
theorem Tryz.lays156 : Go.Proofs.Lays.n156 Tryz.prog Tryz.lays156_ren := {
  mixed := by kernel_rfl
  f156 := Tryz.func80.trans (congrArg some (by kernel_rfl))
  f165 := Tryz.func139.trans (congrArg some (by kernel_rfl))
  f166 := Tryz.func126.trans (congrArg some (by kernel_rfl))
  f169 := Tryz.func127.trans (congrArg some (by kernel_rfl))
  f240 := Tryz.func184.trans (congrArg some (by kernel_rfl))
  f241 := Tryz.func191.trans (congrArg some (by kernel_rfl))
  f276 := Tryz.func217.trans (congrArg some (by kernel_rfl))
  f277 := Tryz.func224.trans (congrArg some (by kernel_rfl))
  t0 := Tryz.underlying0
  a0 := Tryz.isAgg0
  z0 := Tryz.sizeOf0
  v0 := Tryz.zeroValue0
  t3 := Tryz.underlying3
  a3 := Tryz.isAgg3
  z3 := Tryz.sizeOf3
  v3 := Tryz.zeroValue3
  t4 := Tryz.underlying4
  a4 := Tryz.isAgg4
  z4 := Tryz.sizeOf4
  v4 := Tryz.zeroValue4
  t9 := Tryz.underlying9
  a9 := Tryz.isAgg9
  z9 := Tryz.sizeOf9
  v9 := Tryz.zeroValue9
  t20 := Tryz.underlying20
  a20 := Tryz.isAgg20
  z20 := Tryz.sizeOf20
  v20 := Tryz.zeroValue20
  t31 := Tryz.underlying54
  a31 := Tryz.isAgg54
  z31 := Tryz.sizeOf54
  v31 := Tryz.zeroValue54
  t37 := Tryz.underlying92
  a37 := Tryz.isAgg92
  z37 := Tryz.sizeOf92
  v37 := Tryz.zeroValue92
  t70 := Tryz.underlying129
  a70 := Tryz.isAgg129
  z70 := Tryz.sizeOf129
  v70 := Tryz.zeroValue129
  t72 := Tryz.underlying131
  a72 := Tryz.isAgg131
  z72 := Tryz.sizeOf131
  v72 := Tryz.zeroValue131
  t75 := Tryz.underlying134
  a75 := Tryz.isAgg134
  z75 := Tryz.sizeOf134
  v75 := Tryz.zeroValue134
  t76 := Tryz.underlying135
  a76 := Tryz.isAgg135
  z76 := Tryz.sizeOf135
  v76 := Tryz.zeroValue135
  t127 := Tryz.underlying178
  a127 := Tryz.isAgg178
  z127 := Tryz.sizeOf178
  v127 := Tryz.zeroValue178
  t164 := Tryz.underlying201
  a164 := Tryz.isAgg201
  z164 := Tryz.sizeOf201
  v164 := Tryz.zeroValue201 }
theorem Tryz.Builder_Extra_156 : Builder.Extra Tryz.prog Tryz.lays156_ren := {
  sizeBuilder := by kernel_rfl
  liesBuilder := by kernel_rfl
  t5 := Tryz.underlying5
  a5 := Tryz.isAgg5
  z5 := Tryz.sizeOf5
  v5 := Tryz.zeroValue5
  infoByte := by kernel_rfl
  cellsByte := by kernel_rfl
  sizeByte := by kernel_rfl
  neB5 := by decide }
open Go.RowKit in
theorem Tryz.strings_Join_none (a : Option Addr) (c : Nat) (sep : ByteArray) (w : World) :
    Calls Tryz.prog 80 #[.slice a 0 c, .string sep] w fun e w' => e = .returned (.string ⟨#[]⟩) ∧ w' = w := Any.strings_Join_none Tryz.lays156 Tryz.Builder_Extra_156 a c sep w
open Go.RowKit in
theorem Tryz.strings_Join (bk o c : Nat) (xs : List ByteArray) (sep : ByteArray) (w : World) (hcells : ∀ (j : Nat) x, xs[j]? = some x → w.cell? ⟨bk, o + j, none⟩ = some (.string x)) (hbk : bk < w.heap.size) (hN : xs.length ≤ 140737488355328) (hcap : xs.length ≤ c) (hlen : (Lib.join (xs.map (·.data.toList)) sep.data.toList).length ≤ 140737488355328) :
    Calls Tryz.prog 80 #[.slice (some ⟨bk, o, none⟩) xs.length c, .string sep] w fun e w' => e = .returned (.string ⟨(Lib.join (xs.map (·.data.toList)) sep.data.toList).toArray⟩) ∧ Below w.heap.size w w' := Any.strings_Join Tryz.lays156 Tryz.Builder_Extra_156 bk o c xs sep w hcells hbk hN hcap hlen
def Tryz.lays161_ren : Go.Shelf.Ren := ⟨fun | 161 => 193 | 231 => 165 | 227 => 107 | 233 => 167 | 235 => 169 | 228 => 108 | 197 => 210 | 151 => 211 | 260 => 243 | 152 => 105 | 137 => 146 | 119 => 171 | 224 => 172 | 225 => 173 | 217 => 197 | 266 => 228 | n => n, fun | 9 => 9 | 4 => 4 | 3 => 3 | 5 => 5 | 117 => 113 | 116 => 112 | 0 => 0 | 124 => 169 | 105 => 194 | 21 => 21 | 119 => 237 | 46 => 172 | 139 => 240 | 138 => 239 | n => n, fun | 3 => 5 | 4 => 6 | n => n⟩
theorem Tryz.lays161 : Go.Proofs.Lays.n161 Tryz.prog Tryz.lays161_ren := {
  mixed := by kernel_rfl
  f119 := Tryz.func171.trans (congrArg some (by kernel_rfl))
  f137 := Tryz.func146.trans (congrArg some (by kernel_rfl))
  f151 := Tryz.func211.trans (congrArg some (by kernel_rfl))
  f152 := Tryz.func105.trans (congrArg some (by kernel_rfl))
  f161 := Tryz.func193.trans (congrArg some (by kernel_rfl))
  f197 := Tryz.func210.trans (congrArg some (by kernel_rfl))
  f217 := Tryz.func197.trans (congrArg some (by kernel_rfl))
  f224 := Tryz.func172.trans (congrArg some (by kernel_rfl))
  f225 := Tryz.func173.trans (congrArg some (by kernel_rfl))
  f227 := Tryz.func107.trans (congrArg some (by kernel_rfl))
  f228 := Tryz.func108.trans (congrArg some (by kernel_rfl))
  f231 := Tryz.func165.trans (congrArg some (by kernel_rfl))
  f233 := Tryz.func167.trans (congrArg some (by kernel_rfl))
  f235 := Tryz.func169.trans (congrArg some (by kernel_rfl))
  f260 := Tryz.func243.trans (congrArg some (by kernel_rfl))
  f266 := Tryz.func228.trans (congrArg some (by kernel_rfl))
  t0 := Tryz.underlying0
  a0 := Tryz.isAgg0
  z0 := Tryz.sizeOf0
  v0 := Tryz.zeroValue0
  t3 := Tryz.underlying3
  a3 := Tryz.isAgg3
  z3 := Tryz.sizeOf3
  v3 := Tryz.zeroValue3
  t4 := Tryz.underlying4
  a4 := Tryz.isAgg4
  z4 := Tryz.sizeOf4
  v4 := Tryz.zeroValue4
  t5 := Tryz.underlying5
  a5 := Tryz.isAgg5
  z5 := Tryz.sizeOf5
  v5 := Tryz.zeroValue5
  t9 := Tryz.underlying9
  a9 := Tryz.isAgg9
  z9 := Tryz.sizeOf9
  v9 := Tryz.zeroValue9
  t21 := Tryz.underlying21
  a21 := Tryz.isAgg21
  z21 := Tryz.sizeOf21
  v21 := Tryz.zeroValue21
  t46 := Tryz.underlying172
  a46 := Tryz.isAgg172
  z46 := Tryz.sizeOf172
  v46 := Tryz.zeroValue172
  t105 := Tryz.underlying194
  a105 := Tryz.isAgg194
  z105 := Tryz.sizeOf194
  v105 := Tryz.zeroValue194
  t116 := Tryz.underlying112
  a116 := Tryz.isAgg112
  z116 := Tryz.sizeOf112
  t117 := Tryz.underlying113
  a117 := Tryz.isAgg113
  z117 := Tryz.sizeOf113
  v117 := Tryz.zeroValue113
  t119 := Tryz.underlying237
  a119 := Tryz.isAgg237
  z119 := Tryz.sizeOf237
  t124 := Tryz.underlying169
  a124 := Tryz.isAgg169
  z124 := Tryz.sizeOf169
  v124 := Tryz.zeroValue169
  t138 := Tryz.underlying239
  a138 := Tryz.isAgg239
  z138 := Tryz.sizeOf239
  v138 := Tryz.zeroValue239
  t139 := Tryz.underlying240
  a139 := Tryz.isAgg240
  z139 := Tryz.sizeOf240
  v139 := Tryz.zeroValue240
  g3 := by kernel_rfl
  g4 := by kernel_rfl }
def Tryz.lays162_ren : Go.Shelf.Ren := ⟨fun | 162 => 198 | 232 => 166 | 227 => 107 | 234 => 168 | 236 => 170 | 228 => 108 | 271 => 212 | 151 => 211 | 120 => 244 | 197 => 210 | 152 => 105 | 260 => 243 | 137 => 146 | 119 => 171 | 224 => 172 | 225 => 173 | 217 => 197 | 266 => 228 | n => n, fun | 9 => 9 | 4 => 4 | 3 => 3 | 5 => 5 | 117 => 113 | 116 => 112 | 0 => 0 | 124 => 169 | 21 => 21 | 105 => 194 | 46 => 172 | 119 => 237 | 139 => 240 | 138 => 239 | n => n, fun | 3 => 5 | 4 => 6 | n => n⟩
theorem Tryz.lays162 : Go.Proofs.Lays.n162 Tryz.prog Tryz.lays162_ren := {
  mixed := by kernel_rfl
  f119 := Tryz.func171.trans (congrArg some (by kernel_rfl))
  f120 := Tryz.func244.trans (congrArg some (by kernel_rfl))
  f137 := Tryz.func146.trans (congrArg some (by kernel_rfl))
  f151 := Tryz.func211.trans (congrArg some (by kernel_rfl))
  f152 := Tryz.func105.trans (congrArg some (by kernel_rfl))
  f162 := Tryz.func198.trans (congrArg some (by kernel_rfl))
  f197 := Tryz.func210.trans (congrArg some (by kernel_rfl))
  f217 := Tryz.func197.trans (congrArg some (by kernel_rfl))
  f224 := Tryz.func172.trans (congrArg some (by kernel_rfl))
  f225 := Tryz.func173.trans (congrArg some (by kernel_rfl))
  f227 := Tryz.func107.trans (congrArg some (by kernel_rfl))
  f228 := Tryz.func108.trans (congrArg some (by kernel_rfl))
  f232 := Tryz.func166.trans (congrArg some (by kernel_rfl))
  f234 := Tryz.func168.trans (congrArg some (by kernel_rfl))
  f236 := Tryz.func170.trans (congrArg some (by kernel_rfl))
  f260 := Tryz.func243.trans (congrArg some (by kernel_rfl))
  f266 := Tryz.func228.trans (congrArg some (by kernel_rfl))
  f271 := Tryz.func212.trans (congrArg some (by kernel_rfl))
  t0 := Tryz.underlying0
  a0 := Tryz.isAgg0
  z0 := Tryz.sizeOf0
  v0 := Tryz.zeroValue0
  t3 := Tryz.underlying3
  a3 := Tryz.isAgg3
  z3 := Tryz.sizeOf3
  v3 := Tryz.zeroValue3
  t4 := Tryz.underlying4
  a4 := Tryz.isAgg4
  z4 := Tryz.sizeOf4
  v4 := Tryz.zeroValue4
  t5 := Tryz.underlying5
  a5 := Tryz.isAgg5
  z5 := Tryz.sizeOf5
  v5 := Tryz.zeroValue5
  t9 := Tryz.underlying9
  a9 := Tryz.isAgg9
  z9 := Tryz.sizeOf9
  v9 := Tryz.zeroValue9
  t21 := Tryz.underlying21
  a21 := Tryz.isAgg21
  z21 := Tryz.sizeOf21
  v21 := Tryz.zeroValue21
  t46 := Tryz.underlying172
  a46 := Tryz.isAgg172
  z46 := Tryz.sizeOf172
  v46 := Tryz.zeroValue172
  t105 := Tryz.underlying194
  a105 := Tryz.isAgg194
  z105 := Tryz.sizeOf194
  v105 := Tryz.zeroValue194
  t116 := Tryz.underlying112
  a116 := Tryz.isAgg112
  z116 := Tryz.sizeOf112
  t117 := Tryz.underlying113
  a117 := Tryz.isAgg113
  z117 := Tryz.sizeOf113
  v117 := Tryz.zeroValue113
  t119 := Tryz.underlying237
  a119 := Tryz.isAgg237
  z119 := Tryz.sizeOf237
  t124 := Tryz.underlying169
  a124 := Tryz.isAgg169
  z124 := Tryz.sizeOf169
  v124 := Tryz.zeroValue169
  t138 := Tryz.underlying239
  a138 := Tryz.isAgg239
  z138 := Tryz.sizeOf239
  v138 := Tryz.zeroValue239
  t139 := Tryz.underlying240
  a139 := Tryz.isAgg240
  z139 := Tryz.sizeOf240
  v139 := Tryz.zeroValue240
  g3 := by kernel_rfl
  g4 := by kernel_rfl }
def Tryz.lays160_ren : Go.Shelf.Ren := ⟨fun | 160 => 101 | 232 => 166 | 231 => 165 | 227 => 107 | 234 => 168 | 233 => 167 | 236 => 170 | 235 => 169 | 228 => 108 | 271 => 212 | 151 => 211 | 197 => 210 | 120 => 244 | 152 => 105 | 260 => 243 | 137 => 146 | 119 => 171 | 224 => 172 | 225 => 173 | 217 => 197 | 266 => 228 | n => n, fun | 9 => 9 | 4 => 4 | 3 => 3 | 5 => 5 | 117 => 113 | 116 => 112 | 0 => 0 | 124 => 169 | 21 => 21 | 105 => 194 | 46 => 172 | 119 => 237 | 139 => 240 | 138 => 239 | n => n, fun | 3 => 5 | 4 => 6 | n => n⟩
theorem Tryz.lays160 : Go.Proofs.Lays.n160 Tryz.prog Tryz.lays160_ren := {
  mixed := by kernel_rfl
  f119 := Tryz.func171.trans (congrArg some (by kernel_rfl))
  f120 := Tryz.func244.trans (congrArg some (by kernel_rfl))
  f137 := Tryz.func146.trans (congrArg some (by kernel_rfl))
  f151 := Tryz.func211.trans (congrArg some (by kernel_rfl))
  f152 := Tryz.func105.trans (congrArg some (by kernel_rfl))
  f160 := Tryz.func101.trans (congrArg some (by kernel_rfl))
  f197 := Tryz.func210.trans (congrArg some (by kernel_rfl))
  f217 := Tryz.func197.trans (congrArg some (by kernel_rfl))
  f224 := Tryz.func172.trans (congrArg some (by kernel_rfl))
  f225 := Tryz.func173.trans (congrArg some (by kernel_rfl))
  f227 := Tryz.func107.trans (congrArg some (by kernel_rfl))
  f228 := Tryz.func108.trans (congrArg some (by kernel_rfl))
  f231 := Tryz.func165.trans (congrArg some (by kernel_rfl))
  f232 := Tryz.func166.trans (congrArg some (by kernel_rfl))
  f233 := Tryz.func167.trans (congrArg some (by kernel_rfl))
  f234 := Tryz.func168.trans (congrArg some (by kernel_rfl))
  f235 := Tryz.func169.trans (congrArg some (by kernel_rfl))
  f236 := Tryz.func170.trans (congrArg some (by kernel_rfl))
  f260 := Tryz.func243.trans (congrArg some (by kernel_rfl))
  f266 := Tryz.func228.trans (congrArg some (by kernel_rfl))
  f271 := Tryz.func212.trans (congrArg some (by kernel_rfl))
  t0 := Tryz.underlying0
  a0 := Tryz.isAgg0
  z0 := Tryz.sizeOf0
  v0 := Tryz.zeroValue0
  t3 := Tryz.underlying3
  a3 := Tryz.isAgg3
  z3 := Tryz.sizeOf3
  v3 := Tryz.zeroValue3
  t4 := Tryz.underlying4
  a4 := Tryz.isAgg4
  z4 := Tryz.sizeOf4
  v4 := Tryz.zeroValue4
  t5 := Tryz.underlying5
  a5 := Tryz.isAgg5
  z5 := Tryz.sizeOf5
  v5 := Tryz.zeroValue5
  t9 := Tryz.underlying9
  a9 := Tryz.isAgg9
  z9 := Tryz.sizeOf9
  v9 := Tryz.zeroValue9
  t21 := Tryz.underlying21
  a21 := Tryz.isAgg21
  z21 := Tryz.sizeOf21
  v21 := Tryz.zeroValue21
  t46 := Tryz.underlying172
  a46 := Tryz.isAgg172
  z46 := Tryz.sizeOf172
  v46 := Tryz.zeroValue172
  t105 := Tryz.underlying194
  a105 := Tryz.isAgg194
  z105 := Tryz.sizeOf194
  v105 := Tryz.zeroValue194
  t116 := Tryz.underlying112
  a116 := Tryz.isAgg112
  z116 := Tryz.sizeOf112
  t117 := Tryz.underlying113
  a117 := Tryz.isAgg113
  z117 := Tryz.sizeOf113
  v117 := Tryz.zeroValue113
  t119 := Tryz.underlying237
  a119 := Tryz.isAgg237
  z119 := Tryz.sizeOf237
  t124 := Tryz.underlying169
  a124 := Tryz.isAgg169
  z124 := Tryz.sizeOf169
  v124 := Tryz.zeroValue169
  t138 := Tryz.underlying239
  a138 := Tryz.isAgg239
  z138 := Tryz.sizeOf239
  v138 := Tryz.zeroValue239
  t139 := Tryz.underlying240
  a139 := Tryz.isAgg240
  z139 := Tryz.sizeOf240
  v139 := Tryz.zeroValue240
  g3 := by kernel_rfl
  g4 := by kernel_rfl }
def Tryz.lays137_ren : Go.Shelf.Ren := ⟨fun | 137 => 146 | 217 => 197 | 266 => 228 | n => n, fun | 9 => 9 | 5 => 5 | 3 => 3 | n => n, fun | n => n⟩
theorem Tryz.lays137 : Go.Proofs.Lays.n137 Tryz.prog Tryz.lays137_ren := {
  mixed := by kernel_rfl
  f137 := Tryz.func146.trans (congrArg some (by kernel_rfl))
  f217 := Tryz.func197.trans (congrArg some (by kernel_rfl))
  f266 := Tryz.func228.trans (congrArg some (by kernel_rfl))
  t3 := Tryz.underlying3
  a3 := Tryz.isAgg3
  z3 := Tryz.sizeOf3
  v3 := Tryz.zeroValue3
  t5 := Tryz.underlying5
  a5 := Tryz.isAgg5
  z5 := Tryz.sizeOf5
  v5 := Tryz.zeroValue5
  t9 := Tryz.underlying9
  a9 := Tryz.isAgg9
  z9 := Tryz.sizeOf9
  v9 := Tryz.zeroValue9 }
open Go.RowKit in
theorem Tryz.strings_IndexByte (s : ByteArray) (c : Int) (w : World) :
    Calls Tryz.prog 146 #[.string s, .int .u8 c] w fun e w' => e = .returned (.int .i64 (Lib.indexByte s.data.toList c.toNat.toUInt8)) ∧ w' = w := Any.strings_IndexByte Tryz.lays137 s c w
def Tryz.lays103_ren : Go.Shelf.Ren := ⟨fun | 103 => 239 | 210 => 261 | 206 => 269 | n => n, fun | 9 => 9 | 4 => 4 | 24 => 42 | 3 => 3 | n => n, fun | n => n⟩
theorem Tryz.lays103 : Go.Proofs.Lays.n103 Tryz.prog Tryz.lays103_ren := {
  mixed := by kernel_rfl
  f103 := Tryz.func239.trans (congrArg some (by kernel_rfl))
  f206 := Tryz.func269.trans (congrArg some (by kernel_rfl))
  f210 := Tryz.func261.trans (congrArg some (by kernel_rfl))
  t3 := Tryz.underlying3
  a3 := Tryz.isAgg3
  z3 := Tryz.sizeOf3
  v3 := Tryz.zeroValue3
  t4 := Tryz.underlying4
  a4 := Tryz.isAgg4
  z4 := Tryz.sizeOf4
  v4 := Tryz.zeroValue4
  t9 := Tryz.underlying9
  a9 := Tryz.isAgg9
  z9 := Tryz.sizeOf9
  v9 := Tryz.zeroValue9
  t24 := Tryz.underlying42
  a24 := Tryz.isAgg42
  z24 := Tryz.sizeOf42
  v24 := Tryz.zeroValue42 }
open Go.RowKit in
theorem Tryz.strings_CutPrefix (s p : ByteArray) (w : World) :
    Calls Tryz.prog 239 #[.string s, .string p] w fun e w' => e = .returned (.tuple #[.string ⟨(Lib.trimPrefix s.data.toList p.data.toList).toArray⟩, .bool (Lib.hasPrefix s.data.toList p.data.toList)]) ∧ w' = w := Any.strings_CutPrefix Tryz.lays103 s p w
def Tryz.laysM171_ren : Go.Shelf.Ren := ⟨fun | 171 => 72 | 243 => 132 | 246 => 188 | 283 => 219 | 284 => 220 | 285 => 221 | 286 => 222 | 129 => 247 | 317 => 246 | 318 => 248 | 319 => 249 | 320 => 250 | 337 => 263 | 338 => 264 | n => n, fun | 3 => 3 | 9 => 9 | 2 => 2 | 4 => 4 | 171 => 204 | 0 => 0 | 53 => 205 | 37 => 92 | 5 => 5 | 173 => 208 | 212 => 226 | 51 => 227 | 20 => 20 | 213 => 228 | 46 => 172 | 232 => 244 | 233 => 245 | n => n, fun | 17 => 4 | 18 => 7 | 19 => 8 | n => n⟩
theorem Tryz.laysM171 : Go.Proofs.LaysM.n171 Tryz.prog Tryz.laysM171_ren := {
  mixed := by kernel_rfl
  f129 := Tryz.func247.trans (congrArg some (by kernel_rfl))
  f171 := Tryz.func72.trans (congrArg some (by kernel_rfl))
  f243 := Tryz.func132.trans (congrArg some (by kernel_rfl))
  f246 := Tryz.func188.trans (congrArg some (by kernel_rfl))
  f283 := Tryz.func219.trans (congrArg some (by kernel_rfl))
  f284 := Tryz.func220.trans (congrArg some (by kernel_rfl))
  f285 := Tryz.func221.trans (congrArg some (by kernel_rfl))
  f286 := Tryz.func222.trans (congrArg some (by kernel_rfl))
  f317 := Tryz.func246.trans (congrArg some (by kernel_rfl))
  f318 := Tryz.func248.trans (congrArg some (by kernel_rfl))
  f319 := Tryz.func249.trans (congrArg some (by kernel_rfl))
  f320 := Tryz.func250.trans (congrArg some (by kernel_rfl))
  f337 := Tryz.func263.trans (congrArg some (by kernel_rfl))
  f338 := Tryz.func264.trans (congrArg some (by kernel_rfl))
  t0 := Tryz.underlying0
  a0 := Tryz.isAgg0
  z0 := Tryz.sizeOf0
  v0 := Tryz.zeroValue0
  t2 := Tryz.underlying2
  a2 := Tryz.isAgg2
  z2 := Tryz.sizeOf2
  v2 := Tryz.zeroValue2
  t3 := Tryz.underlying3
  a3 := Tryz.isAgg3
  z3 := Tryz.sizeOf3
  v3 := Tryz.zeroValue3
  t4 := Tryz.underlying4
  a4 := Tryz.isAgg4
  z4 := Tryz.sizeOf4
  v4 := Tryz.zeroValue4
  t5 := Tryz.underlying5
  a5 := Tryz.isAgg5
  z5 := Tryz.sizeOf5
  v5 := Tryz.zeroValue5
  t9 := Tryz.underlying9
  a9 := Tryz.isAgg9
  z9 := Tryz.sizeOf9
  v9 := Tryz.zeroValue9
  t20 := Tryz.underlying20
  a20 := Tryz.isAgg20
  z20 := Tryz.sizeOf20
  v20 := Tryz.zeroValue20
  t37 := Tryz.underlying92
  a37 := Tryz.isAgg92
  z37 := Tryz.sizeOf92
  v37 := Tryz.zeroValue92
  t46 := Tryz.underlying172
  a46 := Tryz.isAgg172
  z46 := Tryz.sizeOf172
  v46 := Tryz.zeroValue172
  t51 := Tryz.underlying227
  a51 := Tryz.isAgg227
  z51 := Tryz.sizeOf227
  v51 := Tryz.zeroValue227
  t53 := Tryz.underlying205
  a53 := Tryz.isAgg205
  z53 := Tryz.sizeOf205
  v53 := Tryz.zeroValue205
  t171 := Tryz.underlying204
  a171 := Tryz.isAgg204
  z171 := Tryz.sizeOf204
  v171 := Tryz.zeroValue204
  t173 := Tryz.underlying208
  a173 := Tryz.isAgg208
  z173 := Tryz.sizeOf208
  v173 := Tryz.zeroValue208
  t212 := Tryz.underlying226
  a212 := Tryz.isAgg226
  z212 := Tryz.sizeOf226
  v212 := Tryz.zeroValue226
  t213 := Tryz.underlying228
  a213 := Tryz.isAgg228
  z213 := Tryz.sizeOf228
  t232 := Tryz.underlying244
  a232 := Tryz.isAgg244
  z232 := Tryz.sizeOf244
  v232 := Tryz.zeroValue244
  t233 := Tryz.underlying245
  a233 := Tryz.isAgg245
  z233 := Tryz.sizeOf245
  v233 := Tryz.zeroValue245
  g17 := by kernel_rfl
  g18 := by kernel_rfl
  g19 := by kernel_rfl
  i0 := by kernel_rfl
  i2 := by kernel_rfl
  i3 := by kernel_rfl
  i4 := by kernel_rfl
  i5 := by kernel_rfl
  i9 := by kernel_rfl
  i20 := by kernel_rfl
  i37 := by kernel_rfl
  i46 := by kernel_rfl
  i51 := by kernel_rfl
  i53 := by kernel_rfl
  i171 := by kernel_rfl
  i173 := by kernel_rfl
  i212 := by kernel_rfl
  i232 := by kernel_rfl
  i233 := by kernel_rfl
  m17 := by kernel_rfl
  m18 := by kernel_rfl
  m19 := by kernel_rfl }
open Go.RowKit Go.Sort Go.Lib in
theorem Tryz.strconv_Itoa (n : Int) (h0 : -9223372036854775808 ≤ n) (h1 : n ≤ 9223372036854775807) (w : World) (htab : Lib.TabIs Tryz.prog w "internal/strconv.uint64pow10" .u64 Lib.pow10Tab) :
    Calls Tryz.prog 72 #[.int .i64 n] w fun e w' => e = .returned (.string ⟨(Lib.itoa n).toArray⟩) ∧ ∃ k os, w' = grow (w.drewN k) os := Any.strconv_Itoa Tryz.laysM171 n h0 h1 w htab
def Tryz.lays143_ren : Go.Shelf.Ren := ⟨fun | 143 => 175 | 219 => 190 | 217 => 197 | 225 => 173 | 224 => 172 | 267 => 223 | 266 => 228 | 314 => 251 | n => n, fun | 9 => 9 | 3 => 3 | 4 => 4 | 5 => 5 | 46 => 172 | 146 => 230 | 51 => 227 | n => n, fun | 1 => 2 | n => n⟩
theorem Tryz.lays143 : Go.Proofs.Lays.n143 Tryz.prog Tryz.lays143_ren := {
  mixed := by kernel_rfl
  f143 := Tryz.func175.trans (congrArg some (by kernel_rfl))
  f217 := Tryz.func197.trans (congrArg some (by kernel_rfl))
  f219 := Tryz.func190.trans (congrArg some (by kernel_rfl))
  f224 := Tryz.func172.trans (congrArg some (by kernel_rfl))
  f225 := Tryz.func173.trans (congrArg some (by kernel_rfl))
  f266 := Tryz.func228.trans (congrArg some (by kernel_rfl))
  f267 := Tryz.func223.trans (congrArg some (by kernel_rfl))
  f314 := Tryz.func251.trans (congrArg some (by kernel_rfl))
  t3 := Tryz.underlying3
  a3 := Tryz.isAgg3
  z3 := Tryz.sizeOf3
  v3 := Tryz.zeroValue3
  t4 := Tryz.underlying4
  a4 := Tryz.isAgg4
  z4 := Tryz.sizeOf4
  v4 := Tryz.zeroValue4
  t5 := Tryz.underlying5
  a5 := Tryz.isAgg5
  z5 := Tryz.sizeOf5
  v5 := Tryz.zeroValue5
  t9 := Tryz.underlying9
  a9 := Tryz.isAgg9
  z9 := Tryz.sizeOf9
  v9 := Tryz.zeroValue9
  t46 := Tryz.underlying172
  a46 := Tryz.isAgg172
  z46 := Tryz.sizeOf172
  v46 := Tryz.zeroValue172
  t51 := Tryz.underlying227
  a51 := Tryz.isAgg227
  z51 := Tryz.sizeOf227
  v51 := Tryz.zeroValue227
  t146 := Tryz.underlying230
  a146 := Tryz.isAgg230
  z146 := Tryz.sizeOf230
  v146 := Tryz.zeroValue230
  g1 := by kernel_rfl }
open Go.RowKit Go.Lib in
theorem Tryz.strings_Index (s sub : ByteArray) (m : Int) (w : World) (hs : s.size < 4294967281) (hm : w.cell? ⟨2, 0, none⟩ = some (.int .i64 m)) :
    Calls Tryz.prog 175 #[.string s, .string sub] w fun e w' => e = .returned (.int .i64 (Lib.index s.data.toList sub.data.toList)) ∧ w' = w := Any.strings_Index Tryz.lays143 s sub m w hs hm
def Tryz.lays144_ren : Go.Shelf.Ren := ⟨fun | 144 => 110 | 143 => 175 | 219 => 190 | 217 => 197 | 225 => 173 | 224 => 172 | 267 => 223 | 266 => 228 | 314 => 251 | n => n, fun | 9 => 9 | 4 => 4 | 3 => 3 | 5 => 5 | 46 => 172 | 146 => 230 | 51 => 227 | n => n, fun | 1 => 2 | n => n⟩
theorem Tryz.lays144 : Go.Proofs.Lays.n144 Tryz.prog Tryz.lays144_ren := {
  mixed := by kernel_rfl
  f143 := Tryz.func175.trans (congrArg some (by kernel_rfl))
  f144 := Tryz.func110.trans (congrArg some (by kernel_rfl))
  f217 := Tryz.func197.trans (congrArg some (by kernel_rfl))
  f219 := Tryz.func190.trans (congrArg some (by kernel_rfl))
  f224 := Tryz.func172.trans (congrArg some (by kernel_rfl))
  f225 := Tryz.func173.trans (congrArg some (by kernel_rfl))
  f266 := Tryz.func228.trans (congrArg some (by kernel_rfl))
  f267 := Tryz.func223.trans (congrArg some (by kernel_rfl))
  f314 := Tryz.func251.trans (congrArg some (by kernel_rfl))
  t3 := Tryz.underlying3
  a3 := Tryz.isAgg3
  z3 := Tryz.sizeOf3
  v3 := Tryz.zeroValue3
  t4 := Tryz.underlying4
  a4 := Tryz.isAgg4
  z4 := Tryz.sizeOf4
  v4 := Tryz.zeroValue4
  t5 := Tryz.underlying5
  a5 := Tryz.isAgg5
  z5 := Tryz.sizeOf5
  v5 := Tryz.zeroValue5
  t9 := Tryz.underlying9
  a9 := Tryz.isAgg9
  z9 := Tryz.sizeOf9
  v9 := Tryz.zeroValue9
  t46 := Tryz.underlying172
  a46 := Tryz.isAgg172
  z46 := Tryz.sizeOf172
  v46 := Tryz.zeroValue172
  t51 := Tryz.underlying227
  a51 := Tryz.isAgg227
  z51 := Tryz.sizeOf227
  v51 := Tryz.zeroValue227
  t146 := Tryz.underlying230
  a146 := Tryz.isAgg230
  z146 := Tryz.sizeOf230
  v146 := Tryz.zeroValue230
  g1 := by kernel_rfl }
open Go.RowKit Go.Lib in
theorem Tryz.strings_Contains (s sub : ByteArray) (m : Int) (w : World) (hs : s.size < 4294967281) (hm : w.cell? ⟨2, 0, none⟩ = some (.int .i64 m)) :
    Calls Tryz.prog 110 #[.string s, .string sub] w fun e w' => e = .returned (.bool (Lib.contains s.data.toList sub.data.toList)) ∧ w' = w := Any.strings_Contains Tryz.lays144 s sub m w hs hm
def Tryz.lays145_ren : Go.Shelf.Ren := ⟨fun | 145 => 77 | 220 => 136 | 219 => 190 | 217 => 197 | 225 => 173 | 224 => 172 | 267 => 223 | 266 => 228 | 314 => 251 | n => n, fun | 9 => 9 | 4 => 4 | 59 => 81 | 3 => 3 | 5 => 5 | 46 => 172 | 146 => 230 | 51 => 227 | n => n, fun | 1 => 2 | n => n⟩
theorem Tryz.lays145 : Go.Proofs.Lays.n145 Tryz.prog Tryz.lays145_ren := {
  mixed := by kernel_rfl
  f145 := Tryz.func77.trans (congrArg some (by kernel_rfl))
  f217 := Tryz.func197.trans (congrArg some (by kernel_rfl))
  f219 := Tryz.func190.trans (congrArg some (by kernel_rfl))
  f220 := Tryz.func136.trans (congrArg some (by kernel_rfl))
  f224 := Tryz.func172.trans (congrArg some (by kernel_rfl))
  f225 := Tryz.func173.trans (congrArg some (by kernel_rfl))
  f266 := Tryz.func228.trans (congrArg some (by kernel_rfl))
  f267 := Tryz.func223.trans (congrArg some (by kernel_rfl))
  f314 := Tryz.func251.trans (congrArg some (by kernel_rfl))
  t3 := Tryz.underlying3
  a3 := Tryz.isAgg3
  z3 := Tryz.sizeOf3
  v3 := Tryz.zeroValue3
  t4 := Tryz.underlying4
  a4 := Tryz.isAgg4
  z4 := Tryz.sizeOf4
  v4 := Tryz.zeroValue4
  t5 := Tryz.underlying5
  a5 := Tryz.isAgg5
  z5 := Tryz.sizeOf5
  v5 := Tryz.zeroValue5
  t9 := Tryz.underlying9
  a9 := Tryz.isAgg9
  z9 := Tryz.sizeOf9
  v9 := Tryz.zeroValue9
  t46 := Tryz.underlying172
  a46 := Tryz.isAgg172
  z46 := Tryz.sizeOf172
  v46 := Tryz.zeroValue172
  t51 := Tryz.underlying227
  a51 := Tryz.isAgg227
  z51 := Tryz.sizeOf227
  v51 := Tryz.zeroValue227
  t59 := Tryz.underlying81
  a59 := Tryz.isAgg81
  z59 := Tryz.sizeOf81
  v59 := Tryz.zeroValue81
  t146 := Tryz.underlying230
  a146 := Tryz.isAgg230
  z146 := Tryz.sizeOf230
  v146 := Tryz.zeroValue230
  g1 := by kernel_rfl }
open Go.RowKit Go.Lib in
theorem Tryz.strings_Cut (s sep : ByteArray) (m : Int) (w : World) (hs : s.size < 4294967281) (hm : w.cell? ⟨2, 0, none⟩ = some (.int .i64 m)) :
    Calls Tryz.prog 77 #[.string s, .string sep] w fun e w' => e = .returned (.tuple #[.string ⟨(Lib.cut s.data.toList sep.data.toList).1.toArray⟩, .string ⟨(Lib.cut s.data.toList sep.data.toList).2.1.toArray⟩, .bool (Lib.cut s.data.toList sep.data.toList).2.2]) ∧ ∃ n, w' = w.drewN n := Any.strings_Cut Tryz.lays145 s sep m w hs hm
def Tryz.lays149_ren : Go.Shelf.Ren := ⟨fun | 149 => 109 | 222 => 174 | n => n, fun | 9 => 9 | 5 => 5 | 3 => 3 | 4 => 4 | n => n, fun | n => n⟩
theorem Tryz.lays149 : Go.Proofs.Lays.n149 Tryz.prog Tryz.lays149_ren := {
  mixed := by kernel_rfl
  f149 := Tryz.func109.trans (congrArg some (by kernel_rfl))
  f222 := Tryz.func174.trans (congrArg some (by kernel_rfl))
  t3 := Tryz.underlying3
  a3 := Tryz.isAgg3
  z3 := Tryz.sizeOf3
  v3 := Tryz.zeroValue3
  t4 := Tryz.underlying4
  a4 := Tryz.isAgg4
  z4 := Tryz.sizeOf4
  v4 := Tryz.zeroValue4
  t5 := Tryz.underlying5
  a5 := Tryz.isAgg5
  z5 := Tryz.sizeOf5
  v5 := Tryz.zeroValue5
  t9 := Tryz.underlying9
  a9 := Tryz.isAgg9
  z9 := Tryz.sizeOf9
  v9 := Tryz.zeroValue9 }
open Go.RowKit Go.Lib in
theorem Tryz.strings_LastIndexByte (s : ByteArray) (c : Int) (hs : s.size < 4611686018427387904) (w : World) :
    Calls Tryz.prog 109 #[.string s, .int .u8 c] w fun e w' => e = .returned (.int .i64 (Lib.lastIndexByte s c)) ∧ w' = w := Any.strings_LastIndexByte Tryz.lays149 s c hs w
def Tryz.lays101_ren : Go.Shelf.Ren := ⟨fun | 101 => 256 | 208 => 267 | 206 => 269 | n => n, fun | 9 => 9 | 4 => 4 | 3 => 3 | n => n, fun | n => n⟩
theorem Tryz.lays101 : Go.Proofs.Lays.n101 Tryz.prog Tryz.lays101_ren := {
  mixed := by kernel_rfl
  f101 := Tryz.func256.trans (congrArg some (by kernel_rfl))
  f206 := Tryz.func269.trans (congrArg some (by kernel_rfl))
  f208 := Tryz.func267.trans (congrArg some (by kernel_rfl))
  t3 := Tryz.underlying3
  a3 := Tryz.isAgg3
  z3 := Tryz.sizeOf3
  v3 := Tryz.zeroValue3
  t4 := Tryz.underlying4
  a4 := Tryz.isAgg4
  z4 := Tryz.sizeOf4
  v4 := Tryz.zeroValue4
  t9 := Tryz.underlying9
  a9 := Tryz.isAgg9
  z9 := Tryz.sizeOf9
  v9 := Tryz.zeroValue9 }
open Go.RowKit Go.Lib in
theorem Tryz.strings_TrimPrefix (s p : ByteArray) (w : World) :
    Calls Tryz.prog 256 #[.string s, .string p] w fun e w' => e = .returned (.string ⟨(Lib.trimPrefix s.data.toList p.data.toList).toArray⟩) ∧ w' = w := Any.strings_TrimPrefix Tryz.lays101 s p w
def Tryz.lays146_ren : Go.Shelf.Ren := ⟨fun | 146 => 141 | 221 => 194 | 268 => 225 | 138 => 226 | 143 => 175 | 195 => 252 | 197 => 210 | 218 => 253 | 219 => 190 | 260 => 243 | 217 => 197 | 225 => 173 | 224 => 172 | 267 => 223 | 266 => 228 | 314 => 251 | n => n, fun | 9 => 9 | 31 => 54 | 3 => 3 | 4 => 4 | 0 => 0 | 105 => 194 | 21 => 21 | 5 => 5 | 46 => 172 | 119 => 237 | 139 => 240 | 138 => 239 | 146 => 230 | 51 => 227 | n => n, fun | 1 => 2 | 3 => 5 | 4 => 6 | n => n⟩
theorem Tryz.lays146 : Go.Proofs.Lays.n146 Tryz.prog Tryz.lays146_ren := {
  mixed := by kernel_rfl
  f138 := Tryz.func226.trans (congrArg some (by kernel_rfl))
  f143 := Tryz.func175.trans (congrArg some (by kernel_rfl))
  f146 := Tryz.func141.trans (congrArg some (by kernel_rfl))
  f195 := Tryz.func252.trans (congrArg some (by kernel_rfl))
  f197 := Tryz.func210.trans (congrArg some (by kernel_rfl))
  f217 := Tryz.func197.trans (congrArg some (by kernel_rfl))
  f218 := Tryz.func253.trans (congrArg some (by kernel_rfl))
  f219 := Tryz.func190.trans (congrArg some (by kernel_rfl))
  f221 := Tryz.func194.trans (congrArg some (by kernel_rfl))
  f224 := Tryz.func172.trans (congrArg some (by kernel_rfl))
  f225 := Tryz.func173.trans (congrArg some (by kernel_rfl))
  f260 := Tryz.func243.trans (congrArg some (by kernel_rfl))
  f266 := Tryz.func228.trans (congrArg some (by kernel_rfl))
  f267 := Tryz.func223.trans (congrArg some (by kernel_rfl))
  f268 := Tryz.func225.trans (congrArg some (by kernel_rfl))
  f314 := Tryz.func251.trans (congrArg some (by kernel_rfl))
  t0 := Tryz.underlying0
  a0 := Tryz.isAgg0
  z0 := Tryz.sizeOf0
  v0 := Tryz.zeroValue0
  t3 := Tryz.underlying3
  a3 := Tryz.isAgg3
  z3 := Tryz.sizeOf3
  v3 := Tryz.zeroValue3
  t4 := Tryz.underlying4
  a4 := Tryz.isAgg4
  z4 := Tryz.sizeOf4
  v4 := Tryz.zeroValue4
  t5 := Tryz.underlying5
  a5 := Tryz.isAgg5
  z5 := Tryz.sizeOf5
  v5 := Tryz.zeroValue5
  t9 := Tryz.underlying9
  a9 := Tryz.isAgg9
  z9 := Tryz.sizeOf9
  v9 := Tryz.zeroValue9
  t21 := Tryz.underlying21
  a21 := Tryz.isAgg21
  z21 := Tryz.sizeOf21
  v21 := Tryz.zeroValue21
  t31 := Tryz.underlying54
  a31 := Tryz.isAgg54
  z31 := Tryz.sizeOf54
  v31 := Tryz.zeroValue54
  t46 := Tryz.underlying172
  a46 := Tryz.isAgg172
  z46 := Tryz.sizeOf172
  v46 := Tryz.zeroValue172
  t51 := Tryz.underlying227
  a51 := Tryz.isAgg227
  z51 := Tryz.sizeOf227
  v51 := Tryz.zeroValue227
  t105 := Tryz.underlying194
  a105 := Tryz.isAgg194
  z105 := Tryz.sizeOf194
  v105 := Tryz.zeroValue194
  t119 := Tryz.underlying237
  a119 := Tryz.isAgg237
  z119 := Tryz.sizeOf237
  t138 := Tryz.underlying239
  a138 := Tryz.isAgg239
  z138 := Tryz.sizeOf239
  v138 := Tryz.zeroValue239
  t139 := Tryz.underlying240
  a139 := Tryz.isAgg240
  z139 := Tryz.sizeOf240
  v139 := Tryz.zeroValue240
  t146 := Tryz.underlying230
  a146 := Tryz.isAgg230
  z146 := Tryz.sizeOf230
  v146 := Tryz.zeroValue230
  g1 := by kernel_rfl
  g3 := by kernel_rfl
  g4 := by kernel_rfl }
open Go.RowKit Go.Lib in
theorem Tryz.strings_Split (s sep : ByteArray) (m : Int) (w : World) (hs : s.size < 4294967281) (hm : w.cell? ⟨2, 0, none⟩ = some (.int .i64 m)) (h1 : 1 ≤ sep.size) :
    Calls Tryz.prog 141 #[.string s, .string sep] w fun e w' =>
      e = .returned (.slice (some ⟨w.heap.size, 0, none⟩) (Lib.countB s sep + 1) (Lib.countB s sep + 1)) ∧ w' = w.alloc (.cells ((Lib.splitB sep 0 (Lib.countB s sep) s).map Value.string).toArray 9) := Any.strings_Split Tryz.lays146 (by kernel_rfl) s sep m w hs hm h1
def Tryz.lays153_ren : Go.Shelf.Ren := ⟨fun | 153 => 56 | 152 => 105 | 226 => 106 | 227 => 107 | 228 => 108 | 137 => 146 | 119 => 171 | 224 => 172 | 225 => 173 | 217 => 197 | 266 => 228 | n => n, fun | 9 => 9 | 3 => 3 | 4 => 4 | 5 => 5 | 21 => 21 | 117 => 113 | 116 => 112 | 0 => 0 | 46 => 172 | 124 => 169 | n => n, fun | n => n⟩
theorem Tryz.lays153 : Go.Proofs.Lays.n153 Tryz.prog Tryz.lays153_ren := {
  mixed := by kernel_rfl
  f119 := Tryz.func171.trans (congrArg some (by kernel_rfl))
  f137 := Tryz.func146.trans (congrArg some (by kernel_rfl))
  f152 := Tryz.func105.trans (congrArg some (by kernel_rfl))
  f153 := Tryz.func56.trans (congrArg some (by kernel_rfl))
  f217 := Tryz.func197.trans (congrArg some (by kernel_rfl))
  f224 := Tryz.func172.trans (congrArg some (by kernel_rfl))
  f225 := Tryz.func173.trans (congrArg some (by kernel_rfl))
  f226 := Tryz.func106.trans (congrArg some (by kernel_rfl))
  f227 := Tryz.func107.trans (congrArg some (by kernel_rfl))
  f228 := Tryz.func108.trans (congrArg some (by kernel_rfl))
  f266 := Tryz.func228.trans (congrArg some (by kernel_rfl))
  t0 := Tryz.underlying0
  a0 := Tryz.isAgg0
  z0 := Tryz.sizeOf0
  v0 := Tryz.zeroValue0
  t3 := Tryz.underlying3
  a3 := Tryz.isAgg3
  z3 := Tryz.sizeOf3
  v3 := Tryz.zeroValue3
  t4 := Tryz.underlying4
  a4 := Tryz.isAgg4
  z4 := Tryz.sizeOf4
  v4 := Tryz.zeroValue4
  t5 := Tryz.underlying5
  a5 := Tryz.isAgg5
  z5 := Tryz.sizeOf5
  v5 := Tryz.zeroValue5
  t9 := Tryz.underlying9
  a9 := Tryz.isAgg9
  z9 := Tryz.sizeOf9
  v9 := Tryz.zeroValue9
  t21 := Tryz.underlying21
  a21 := Tryz.isAgg21
  z21 := Tryz.sizeOf21
  v21 := Tryz.zeroValue21
  t46 := Tryz.underlying172
  a46 := Tryz.isAgg172
  z46 := Tryz.sizeOf172
  v46 := Tryz.zeroValue172
  t116 := Tryz.underlying112
  a116 := Tryz.isAgg112
  z116 := Tryz.sizeOf112
  t117 := Tryz.underlying113
  a117 := Tryz.isAgg113
  z117 := Tryz.sizeOf113
  v117 := Tryz.zeroValue113
  t124 := Tryz.underlying169
  a124 := Tryz.isAgg169
  z124 := Tryz.sizeOf169
  v124 := Tryz.zeroValue169 }
open Go.RowKit Go.Lib in
theorem Tryz.strings_IndexAny_none (s chars : ByteArray) (w : World) (h0 : chars.size = 0) :
    Calls Tryz.prog 56 #[.string s, .string chars] w fun e w' => e = .returned (.int .i64 (Lib.indexAny s.data.toList chars.data.toList)) ∧ w' = w := Any.strings_IndexAny_none Tryz.lays153 s chars w h0
open Go.RowKit Go.Lib in
theorem Tryz.strings_IndexAny_one (s chars : ByteArray) (w : World) (h1 : chars.size = 1) (hascii : ∀ (j : Nat) b, chars.data.toList[j]? = some b → b.toNat < 128) :
    Calls Tryz.prog 56 #[.string s, .string chars] w fun e w' => e = .returned (.int .i64 (Lib.indexAny s.data.toList chars.data.toList)) ∧ w' = w := Any.strings_IndexAny_one Tryz.lays153 s chars w h1 hascii
open Go.RowKit Go.Lib in
theorem Tryz.strings_IndexAny_long (hv116 : ∀ w, (zeroValue 112).run Tryz.prog w = .ok (.agg (Array.replicate 256 (.bool false))) w) (s chars : ByteArray) (w : World) (h2 : 2 ≤ chars.size) (h8 : 8 < s.size) (hs : s.size < 4294967281) (hcs : chars.size < 4294967281) (hascii : ∀ (j : Nat) b, chars.data.toList[j]? = some b → b.toNat < 128) :
    Calls Tryz.prog 56 #[.string s, .string chars] w fun e w' => e = .returned (.int .i64 (Lib.indexAny s.data.toList chars.data.toList)) ∧ w' = ((w.alloc (.cells (Lib.setCells chars.data.toList) 112)).alloc (.cells (Lib.setCells chars.data.toList) 112)) := Any.strings_IndexAny_long Tryz.lays153 hv116 (by kernel_rfl) s chars w h2 h8 hs hcs hascii
open Go.RowKit Go.Lib in
theorem Tryz.strings_IndexAny_laid (s chars : ByteArray) (w : World) (hs : s.size < 4294967281) (hcs : chars.size < 4294967281) (has : ∀ (j : Nat) b, s.data.toList[j]? = some b → b.toNat < 128) (hac : ∀ (j : Nat) b, chars.data.toList[j]? = some b → b.toNat < 128) :
    Calls Tryz.prog 56 #[.string s, .string chars] w fun e w' => e = .returned (.int .i64 (Lib.indexAny s.data.toList chars.data.toList)) ∧ Below w.heap.size w w' := Any.strings_IndexAny_laid Tryz.lays153 (by kernel_rfl) s chars w hs hcs has hac
end Go.Proofs
set_option linter.unusedVariables false
set_option linter.unusedSimpArgs false
set_option maxRecDepth 20000
namespace Go.Proofs
open Go.Wk Go.Px
open Go.Value renaming slice → Vs, int → Vi, bool → Vb, pointer → Vp
theorem akc (s : List UInt8) (c : UInt8) (w : World) : CR Tryz.prog 146 [str s, bt c] w fun v w' => v = .int .i64 (ixb (· == c) s) ∧ Hp w [] [] w' := by
  have h := Tryz.strings_IndexByte ⟨s.toArray⟩ (c.toNat : Int) w
  rw [show ((c.toNat : Int).toNat.toUInt8) = c by simp] at h
  rw [← indexByte_ixb]
  exact anp h
theorem sh_LastIndexByte (s : List UInt8) (c : UInt8) (w : World) (hs : s.length ≤ 1000000000) : CR Tryz.prog 109 [str s, bt c] w fun v w' => v = .int .i64 (ann (· == c) s) ∧ Hp w [] [] w' := by
  have h := Tryz.strings_LastIndexByte ⟨s.toArray⟩ (c.toNat : Int) (by show s.length < _; omega) w
  rw [lastIndexByte_lixb] at h
  exact anp h
theorem sh_Contains (s t : List UInt8) (w : World) (hs : s.length ≤ 1000000000) (hG : Gl w) : CR Tryz.prog 110 [str s, str t] w fun v w' => v = .bool (Lib.contains s t) ∧ Hp w [] [] w' := by
  obtain ⟨m, hm⟩ := hG.cell
  exact anp (Tryz.strings_Contains ⟨s.toArray⟩ ⟨t.toArray⟩ m w (by show s.length < _; omega) hm)
theorem sh_Index (s t : List UInt8) (w : World) (hs : s.length ≤ 1000000000) (hG : Gl w) : CR Tryz.prog 175 [str s, str t] w fun v w' => v = .int .i64 (Lib.index s t) ∧ Hp w [] [] w' := by
  obtain ⟨m, hm⟩ := hG.cell
  exact anp (Tryz.strings_Index ⟨s.toArray⟩ ⟨t.toArray⟩ m w (by show s.length < _; omega) hm)
theorem sh_Cut (s t : List UInt8) (w : World) (hs : s.length ≤ 1000000000) (hG : Gl w) : CR Tryz.prog 77 [str s, str t] w fun v w' => v = .tuple #[str (Lib.cut s t).1, str (Lib.cut s t).2.1, .bool (Lib.cut s t).2.2] ∧ Hp w [] [] w' := by
  obtain ⟨m, hm⟩ := hG.cell
  exact cr_drew (Tryz.strings_Cut ⟨s.toArray⟩ ⟨t.toArray⟩ m w (by show s.length < _; omega) hm)
theorem sh_CutPrefix (s t : List UInt8) (w : World) : CR Tryz.prog 239 [str s, str t] w fun v w' => v = .tuple #[str (Lib.trimPrefix s t), .bool (Lib.hasPrefix s t)] ∧ Hp w [] [] w' := by
  exact anp (Tryz.strings_CutPrefix ⟨s.toArray⟩ ⟨t.toArray⟩ w)
theorem sh_TrimPrefix (s t : List UInt8) (w : World) : CR Tryz.prog 256 [str s, str t] w fun v w' => v = str (Lib.trimPrefix s t) ∧ Hp w [] [] w' := by
  exact anp (Tryz.strings_TrimPrefix ⟨s.toArray⟩ ⟨t.toArray⟩ w)
theorem sh_Trim (s t : List UInt8) (w : World) (hs : s.length ≤ 1000000000) (ht : t.length ≤ 1000 ∧ t.all (fun b => decide (b.toNat < 128)) = true) : CR Tryz.prog 101 [str s, str t] w fun v w' => v = str (Lib.trimS s t) ∧ Hp w [] [] w' := by
  exact cr_below (Any.strings_Trim_laid Tryz.lays160 (by kernel_rfl) ⟨s.toArray⟩ ⟨t.toArray⟩ w (by show s.length ≤ _; omega) (by show t.length < _; omega) (ascii_of_all ht.2))
theorem sh_TrimLeft (s t : List UInt8) (w : World) (hs : s.length ≤ 1000000000) (ht : t.length ≤ 1000 ∧ t.all (fun b => decide (b.toNat < 128)) = true) : CR Tryz.prog 193 [str s, str t] w fun v w' => v = str (Lib.trimLeftS s t) ∧ Hp w [] [] w' := by
  exact cr_below (Any.strings_TrimLeft_laid Tryz.lays161 (by kernel_rfl) ⟨s.toArray⟩ ⟨t.toArray⟩ w (by show t.length < _; omega) (ascii_of_all ht.2))
theorem sh_TrimRight (s t : List UInt8) (w : World) (hs : s.length ≤ 1000000000) (ht : t.length ≤ 1000 ∧ t.all (fun b => decide (b.toNat < 128)) = true) : CR Tryz.prog 198 [str s, str t] w fun v w' => v = str (Lib.trimRightS s t) ∧ Hp w [] [] w' := by
  exact cr_below (Any.strings_TrimRight_laid Tryz.lays162 (by kernel_rfl) ⟨s.toArray⟩ ⟨t.toArray⟩ w (by show s.length ≤ _; omega) (by show t.length < _; omega) (ascii_of_all ht.2))
theorem sh_Itoa (i : Int) (w : World) (hi : ace i) (hG : Gl w) : CR Tryz.prog 72 [.int .i64 i] w fun v w' => v = str (Lib.itoa i) ∧ Hp w [] [] w' := by
  obtain ⟨t, f, e⟩ := hG.pow10
  have hT : Lib.TabIs Tryz.prog w "internal/strconv.uint64pow10" .u64 Lib.pow10Tab := by
    unfold Lib.TabIs World.var?
    rw [show Tryz.prog.globalNamed "internal/strconv.uint64pow10" = some 4 by kernel_rfl]
    simp [e]
  have h := Tryz.strconv_Itoa i hi.1 hi.2 w hT
  exact Calls.mono h fun _ _ ⟨e, k, os, hb⟩ => ⟨_, e, rfl, hb ▸ hp_grow k os⟩
theorem sh_Split (s : List UInt8) (c : UInt8) (w : World) (hs : s.length ≤ 1000000000) (hG : Gl w) : CR Tryz.prog 141 [str s, str [c]] w fun v w' => ∃ o a cap, v = .slice a (spl c s).length cap ∧ Hp w [] [rwt eS 9 1 o a cap (spl c s)] w' := by
  obtain ⟨m, hm⟩ := hG.cell
  have h := Tryz.strings_Split ⟨s.toArray⟩ ⟨#[c]⟩ m w (by show s.length < _; omega) hm (by show 1 ≤ 1; omega)
  rw [split_spl, split_spl_len] at h
  refine Calls.mono h ?_
  rintro _ _ ⟨rfl, rfl⟩
  have h1 := (Hp.refl w).alloc ((spl c s).map str) 9
  have := (spl_sum c s).1
  have e : (spl c s).flatMap eS = (spl c s).map str := by
    generalize spl c s = l
    induction l with
    | nil => rfl
    | cons x l ih => rw [List.flatMap_cons, ih]; rfl
  exact ⟨_, rfl, some w.heap.size, _, _, rfl, h1.blkrw 0 1 (spl c s).length (spl c s) rfl enc_S e rfl (by simp [maxLen]; omega)⟩
theorem flatS (l : List (List UInt8)) : l.flatMap eS = l.map str := by
  induction l with
  | nil => rfl
  | cons x l ih => rw [List.flatMap_cons, ih]; rfl
theorem sh_Join (t : List UInt8) (w : World) (a : Option Addr) (n cap : Nat) (xs : List (List UInt8)) (hn : n = xs.length) (hRe : Rd w a (xs.flatMap eS)) (hCa : n ≤ cap) (hN : xs.length ≤ 1000000000 ∧ (Lib.join xs t).length ≤ 100000000000) : CR Tryz.prog 80 [.slice a n cap, str t] w fun v w' => v = str (Lib.join xs t) ∧ Hp w [] [] w' := by
  subst hn
  rw [flatS] at hRe
  cases xs with
  | nil => exact anp (Tryz.strings_Join_none a cap ⟨t.toArray⟩ w)
  | cons x r =>
    obtain ⟨p, rfl, hp⟩ := hRe 0 (str x) (by simp)
    have hbk := cell_lt hp
    rw [add_block] at hbk
    have hsp : p.spot = none := by
      have := rd_spot hp
      simpa [Addr.add] using this
    obtain ⟨bk, o, sp⟩ := p
    simp only at hsp hbk
    subst hsp
    have e : ((x :: r).map fun l => (⟨l.toArray⟩ : ByteArray)).map (·.data.toList) = x :: r := by rw [List.map_map]; exact List.map_id _
    have h := Tryz.strings_Join bk o cap ((x :: r).map fun l => (⟨l.toArray⟩ : ByteArray)) ⟨t.toArray⟩ w (fun j y hy => by
      have := row_strs ⟨bk, o, none⟩ (x :: r) hRe j y hy
      cases j <;> simpa [Addr.add] using this) hbk (by rw [List.length_map]; omega) (by rw [List.length_map]; exact hCa) (by rw [e]; show (Lib.join (x :: r) t).length ≤ _; omega)
    rw [e, List.length_map] at h
    exact cr_below h
theorem sh_IndexAny (s t : List UInt8) (w : World) (h : s.length ≤ 1000000000 ∧ t.length ≤ 1000 ∧ t.all (fun b => decide (b.toNat < 128)) = true ∧ (8 < s.length ∨ t.length ≤ 1 ∨ s.all (fun b => decide (b.toNat < 128)) = true)) : CR Tryz.prog 56 [str s, str t] w fun v w' => v = .int .i64 (Lib.indexAny s t) ∧ Hp w [] [] w' := by
  obtain ⟨h1, h2, h3, h4⟩ := h
  by_cases h0 : t.length = 0
  · exact anp (Tryz.strings_IndexAny_none ⟨s.toArray⟩ ⟨t.toArray⟩ w h0)
  by_cases h1' : t.length = 1
  · exact anp (Tryz.strings_IndexAny_one ⟨s.toArray⟩ ⟨t.toArray⟩ w h1' (ascii_of_all h3))
  rcases h4 with h4 | h4 | h4
  · have hz : ∀ w, (zeroValue 112).run Tryz.prog w = .ok (.agg (Array.replicate 256 (.bool false))) w := (zero_of_info (n := 256) (by kernel_rfl)).1
    have h := Tryz.strings_IndexAny_long hz ⟨s.toArray⟩ ⟨t.toArray⟩ w (by show 2 ≤ t.length; omega) (by show 8 < s.length; omega) (by show s.length < _; omega) (by show t.length < _; omega) (ascii_of_all h3)
    refine Calls.mono h ?_
    rintro _ _ ⟨rfl, rfl⟩
    exact ⟨_, rfl, rfl, Hp.ofBelow ⟨rfl, rfl, rfl, by simp; omega, fun k hk => by rw [RowKit.Below.heap_alloc _ _ k (by simp; omega), RowKit.Below.heap_alloc _ _ k hk]⟩⟩
  · omega
  · exact cr_below (Tryz.strings_IndexAny_laid ⟨s.toArray⟩ ⟨t.toArray⟩ w (by show s.length < _; omega) (by show t.length < _; omega) (ascii_of_all h4) (ascii_of_all h3))
theorem sh_Clone98 (l : List (Str × Str × Bool)) (w : World) (a : Option Addr) (n cap : Nat) (hn : n = l.length) (hR : Rd w a (l.flatMap aaa)) (hb : (0 + l.length) * 40 ≤ 140737488355328) : CR Tryz.prog 98 [.slice a n cap] w fun v w' => ∃ o a' cap', v = .slice a' l.length cap' ∧ Hp w [] [rwt aaa 46 3 o a' cap' l] w' := by
  subst hn
  have hH : Hp w [] [] w := Hp.refl w
  refine enter (k := 8) Tryz.func98 rfl rfl (Nat.le_of_ble_eq_true rfl) ?_
  refine c_seq ?_
  refine alg ?_
  refine w_assign (Vs none 0 0) (by kernel_rfl) ?_
  refine w_nil ?_
  refine q_next ?_
  refine c_seq ?_
  refine c_seq ?_
  refine alg ?_
  refine w_move (Vs a l.length cap) (by kernel_rfl) ?_
  refine w_snil a l.length cap 46 Tryz.underlying22 (by kernel_rfl) (by kernel_rfl) ?_
  refine w_nil ?_
  refine q_next ?_
  refine c_bool (b := a.isNone) (by kernel_rfl) (fun h => ?_) (fun h => ?_)
  · have ha : a = none := by cases a with | none => rfl | some p => cases h
    subst ha
    have hl : l = [] := by
      cases l with
      | nil => rfl
      | cons x l =>
        exfalso
        have h1 := Enc.flat aab (x :: l)
        have h2 : (List.flatMap aaa (x :: l)).length = 0 := by
          cases hq : List.flatMap aaa (x :: l) with
          | nil => rfl
          | cons u us => obtain ⟨p, hp, _⟩ := hR 0 u (by rw [hq]; rfl); cases hp
        rw [h2] at h1
        simp at h1
    subst hl
    refine c_seq ?_
    refine alg ?_
    refine w_assign (Vs none 0 0) (by kernel_rfl) ?_
    refine w_nil ?_
    refine q_next ?_
    refine c_ret ?_
    refine s_ret ?_
    refine ana (Vs none 0 0) rfl (by kernel_rfl) ?_
    exact ⟨none, none, 0, rfl, Hp.nilrw hH aaa 46 3 none⟩
  · refine c_skip ?_
    refine q_next ?_
    refine c_seq ?_
    refine alg ?_
    refine adl hH [] 46 (fun b => (Vs (some ⟨b, 0, none⟩) 0 0)) rfl rfl (by kernel_rfl) ?_
    intro b1 w2 a0
    have a1 : Hp w [] [rwt aaa 46 3 (some b1) (some ⟨b1, 0, none⟩) 0 ([] : List (Str × Str × Bool))] w2 := a0.blkrw 0 3 0 ([] : List (Str × Str × Bool)) rfl aab rfl rfl (by decide)
    refine w_move (Vs a l.length cap) (by kernel_rfl) ?_
    refine adw a1 0 (some b1) (some ⟨b1, 0, none⟩) a 0 cap 46 3 40 ([] : List (Str × Str × Bool)) l aab rfl Tryz.underlying22 (by unfold TI; kernel_rfl) (by decide) (by decide) (by kernel_rfl) (by kernel_rfl) (hR.hp a0) hb ?_
    intro o5 a6 cap7 w8 a2
    refine w_assign (Vs a6 l.length cap7) (by kernel_rfl) ?_
    refine w_nil ?_
    refine q_next ?_
    refine c_ret ?_
    refine ana (Vs a6 l.length cap7) rfl (by kernel_rfl) ?_
    exact ⟨o5, a6, cap7, rfl, a2⟩
theorem sh_copyCheck (b : Nat) (z : Bool) (s : Value) (w : World) (hM : Hp w (aaj [blk b [Vp (bif z then some ⟨b, 0, none⟩ else none), s] 131]) [blk b [Vp (bif z then some ⟨b, 0, none⟩ else none), s] 131] w) : CR Tryz.prog 184 [Vp (some ⟨b, 0, none⟩)] w fun v w' => v = .tuple #[] ∧ Hp w (aaj [blk b [Vp (bif z then some ⟨b, 0, none⟩ else none), s] 131]) [blk b [Vp (some ⟨b, 0, none⟩), s] 131] w' := by
  cases z with
  | false =>
    have hH : Hp w (aaj [blk b [(Vp none), s] 131]) [blk b [(Vp none), s] 131] w := hM
    refine enter (k := 20) Tryz.func184 rfl rfl (Nat.le_of_ble_eq_true rfl) ?_
    refine c_seq ?_
    refine alg ?_
    refine w_move (Vp (some ⟨b, 0, none⟩)) (by kernel_rfl) ?_
    refine aed (v := (Vp (some ⟨b, 0, none⟩))) (w' := w) rfl rfl (by kernel_rfl) ?_
    refine aed (v := (Vp (some ⟨b, 0, none⟩))) (w' := w) rfl rfl (by kernel_rfl) ?_
    refine aav hH 0 b 0 [(Vp none), s] 131 (Vp none) rfl rfl (by kernel_rfl) (by kernel_rfl) ?_
    refine w_pnil none Tryz.underlying129 (by kernel_rfl) (by kernel_rfl) ?_
    refine w_nil ?_
    refine q_next ?_
    refine c_true (by kernel_rfl) ?_
    refine alg ?_
    refine w_move (Vp (some ⟨b, 0, none⟩)) (by kernel_rfl) ?_
    refine w_move (Vp (some ⟨b, 0, none⟩)) (by kernel_rfl) ?_
    refine w_toUns hH 0 b 0 131 [(Vp none), s] rfl Tryz.underlying129 Tryz.underlying201 (by kernel_rfl) (by simp) (by kernel_rfl) ?_
    refine w_noEsc hH 217 (Vp (some ⟨b, 0, none⟩)) (by kernel_rfl) (by kernel_rfl) Tryz.func217 (by kernel_rfl) (by kernel_rfl) (by kernel_rfl) (by kernel_rfl) ?_
    intro w1 a0
    refine w_ofUns a0 0 b 0 131 [(Vp none), s] rfl Tryz.underlying201 Tryz.underlying129 (by kernel_rfl) (by kernel_rfl) (by kernel_rfl) ?_
    refine aed (v := (Vp (some ⟨b, 0, none⟩))) (w' := w1) rfl rfl (by kernel_rfl) ?_
    refine aed (v := (Vp (some ⟨b, 0, none⟩))) (w' := w1) rfl rfl (by kernel_rfl) ?_
    refine aeu a0 0 b 0 [(Vp none), s] 131 (Vp (some ⟨b, 0, none⟩)) [blk b [(Vp (some ⟨b, 0, none⟩)), s] 131] rfl (Nat.lt_of_lt_of_le (Nat.lt_succ_self _) (Nat.le_of_ble_eq_true rfl)) (by kernel_rfl) (by kernel_rfl) rfl (by kernel_rfl) rfl ?_
    intro w3 a1
    refine w_nil ?_
    refine ahn  rfl  ?_
    exact ⟨rfl, a1.kp⟩
  | true =>
    have hH : Hp w (aaj [blk b [(Vp (some ⟨b, 0, none⟩)), s] 131]) [blk b [(Vp (some ⟨b, 0, none⟩)), s] 131] w := hM
    refine enter (k := 20) Tryz.func184 rfl rfl (Nat.le_of_ble_eq_true rfl) ?_
    refine c_seq ?_
    refine alg ?_
    refine w_move (Vp (some ⟨b, 0, none⟩)) (by kernel_rfl) ?_
    refine aed (v := (Vp (some ⟨b, 0, none⟩))) (w' := w) rfl rfl (by kernel_rfl) ?_
    refine aed (v := (Vp (some ⟨b, 0, none⟩))) (w' := w) rfl rfl (by kernel_rfl) ?_
    refine aav hH 0 b 0 [(Vp (some ⟨b, 0, none⟩)), s] 131 (Vp (some ⟨b, 0, none⟩)) rfl rfl (by kernel_rfl) (by kernel_rfl) ?_
    refine w_pnil (some ⟨b, 0, none⟩) Tryz.underlying129 (by kernel_rfl) (by kernel_rfl) ?_
    refine w_nil ?_
    refine q_next ?_
    refine c_false (by kernel_rfl) ?_
    refine c_seq ?_
    refine alg ?_
    refine w_move (Vp (some ⟨b, 0, none⟩)) (by kernel_rfl) ?_
    refine aed (v := (Vp (some ⟨b, 0, none⟩))) (w' := w) rfl rfl (by kernel_rfl) ?_
    refine aed (v := (Vp (some ⟨b, 0, none⟩))) (w' := w) rfl rfl (by kernel_rfl) ?_
    refine aav hH 0 b 0 [(Vp (some ⟨b, 0, none⟩)), s] 131 (Vp (some ⟨b, 0, none⟩)) rfl rfl (by kernel_rfl) (by kernel_rfl) ?_
    refine w_move (Vp (some ⟨b, 0, none⟩)) (by kernel_rfl) ?_
    refine w_pself ⟨b, 0, none⟩ Tryz.underlying129 (by kernel_rfl) (by kernel_rfl) (by kernel_rfl) ?_
    refine w_nil ?_
    refine q_next ?_
    refine c_false (by kernel_rfl) ?_
    refine c_skip ?_
    refine ahn  rfl  ?_
    exact ⟨rfl, hH.kp⟩
theorem sh_BString (b : Nat) (z : Bool) (o : Option Nat) (a : Option Addr) (cap : Nat) (l : Str) {w0 w : World} {L : List Res} (hH : Hp w0 [] L w) (kb kr : Nat) (hb : L[kb]? = some (blk b [Vp (bif z then some ⟨b, 0, none⟩ else none), .slice a l.length cap] 131)) (hr : L[kr]? = some (rwt eB 5 1 o a cap l)) (hne : Nat.beq kb kr = false) :
    CR Tryz.prog 127 [Vp (some ⟨b, 0, none⟩)] w fun v w' => v = str l ∧ Hp w0 [] [] w' := by
  have hbk := hH.blkAt kb hb
  have hB : w0.heap.size ≤ b := by
    have := ((hH.res _ (List.mem_of_getElem? hb)).2 b rfl).2
    simpa using this
  have hcells : Lib.byteCells l = l.flatMap eB := by rw [flat_eB]; rfl
  have hrow : ∃ v, w.heap[b]? = some (.cells #[Vp (bif z then some ⟨b, 0, none⟩ else none), v] 131 (0, 0)) ∧ w.ownsRow w0.heap.size 5 1 v (Lib.byteCells l).length (Lib.byteCells l) ∧ v.ownBlock ≠ some b := by
    refine ⟨.slice a l.length cap, hbk, ?_, ?_⟩
    · rw [hcells, aks.flat l, Nat.mul_one]
      obtain ⟨h1, h2⟩ := hH.res _ (List.mem_of_getElem? hr)
      rcases h1 with ⟨_, rfl, rfl, rfl⟩ | ⟨g, cur, ho, rfl, hob, a0, a1, a2, htk⟩
      · exact ⟨by simp, .inl ⟨rfl, rfl⟩⟩
      · have ho' : o = some g := ho
        subst ho'
        have hg : w0.heap.size ≤ g := by simpa using (h2 g rfl).2
        exact ⟨by rw [aks.flat], .inr ⟨g, cap, cur, rfl, hg, hob, a0, a1, a2, htk⟩⟩
    · intro hv
      obtain ⟨h1, h2⟩ := hH.res _ (List.mem_of_getElem? hr)
      rcases h1 with ⟨_, rfl, rfl, rfl⟩ | ⟨g, cur, ho, rfl, hob, a0, a1, a2, htk⟩
      · cases hv
      · have ho' : o = some g := ho
        have hgb : g = b := by simpa [Value.ownBlock] using hv
        have hkb : kb < L.length := (List.getElem?_eq_some_iff.1 hb).1
        have hkr : kr < L.length := (List.getElem?_eq_some_iff.1 hr).1
        have hkk : kb ≠ kr := fun e => by subst e; simp at hne
        have hp := List.pairwise_iff_getElem.1 hH.sep
        have e1 := (List.getElem?_eq_some_iff.1 hb).2
        have e2 := (List.getElem?_eq_some_iff.1 hr).2
        rcases Nat.lt_or_ge kb kr with h5 | h5
        · have := hp kb kr hkb hkr h5 b
          rw [e1, e2] at this
          exact this rfl (by show o = some b; rw [ho', hgb])
        · have := hp kr kb hkr hkb (by omega) b
          rw [e1, e2] at this
          exact this (by show o = some b; rw [ho', hgb]) rfl
  have hI : Lib.IsBuilder 131 5 w0.heap.size b (Lib.byteCells l) w := by
    cases z with
    | false => exact .inl ⟨hB, hrow⟩
    | true => exact .inr ⟨hB, hrow⟩
  have h := Tryz.Builder_String_any w0.heap.size b l w hI hH.size
  refine Calls.mono h ?_
  rintro _ w' ⟨rfl, hw⟩
  exact ⟨_, rfl, rfl, ⟨hw.os.trans hH.os, hw.tape.trans hH.tape, hw.output.trans hH.output, Nat.le_trans hH.size hw.size, fun k hk _ => (hw.block k hk).trans (hH.below k hk (by simp)), fun r hr => by simp at hr, List.Pairwise.nil⟩⟩
end Go.Proofs
set_option linter.unusedVariables false
set_option linter.unusedSimpArgs false
set_option maxRecDepth 20000
set_option maxHeartbeats 1000000
namespace Go.Wk
open Go.Px
def akk (fu : Nat) (a0 : UInt8) : Option Bool :=
  (((((if (97 : UInt8) ≤ a0 then some (decide (a0 ≤ (122 : UInt8))) else some false)).bind fun (a1 : Bool) => (bif a1 then (bif a1 then some (.inr true) else some (.inl ())) else (((if (65 : UInt8) ≤ a0 then some (decide (a0 ≤ (90 : UInt8))) else some false)).bind fun (a2 : Bool) => (bif a2 then (bif a2 then some (.inr true) else some (.inl ())) else (if (48 : UInt8) ≤ a0 then (if a0 ≤ (57 : UInt8) then some (.inr true) else some (.inl ())) else some (.inl ()))))))).bind fun (a3 : (Unit ⊕ Bool)) => Sum.elim (fun (a4 : Unit) => (if a0 = (45 : UInt8) then (if a0 = (45 : UInt8) then some true else some false) else (if a0 = (46 : UInt8) then (if a0 = (46 : UInt8) then some true else some false) else (if a0 = (33 : UInt8) then (if a0 = (33 : UInt8) then some true else some false) else (if a0 = (37 : UInt8) then (if a0 = (37 : UInt8) then some true else some false) else (if a0 = (42 : UInt8) then (if a0 = (42 : UInt8) then some true else some false) else (if a0 = (95 : UInt8) then (if a0 = (95 : UInt8) then some true else some false) else (if a0 = (43 : UInt8) then (if a0 = (43 : UInt8) then some true else some false) else (if a0 = (39 : UInt8) then (if a0 = (39 : UInt8) then some true else some false) else (if a0 = (126 : UInt8) then (if a0 = (126 : UInt8) then some true else some false) else (if a0 = (96 : UInt8) then some true else some false))))))))))) (fun q => some q) a3)
def adx (fu : Nat) (s_0 : Str) : Nat → Int → Option Int
  | 0, _ => none
  | a1 + 1, a0 => (((if a0 < (s_0.length : Int) then (gd (0 ≤ a0 ∧ a0 < (s_0.length : Int)) <| ((akk fu (at_ s_0 a0)).bind fun (a2 : Bool) => some a2)) else some false)).bind fun (a3 : Bool) => (bif a3 then (gd (ace (a0 + (1 : Int))) <| (adx fu s_0 a1 (a0 + (1 : Int)))) else some a0))
def aft (fu : Nat) (s_0 : Str) (a0 : Int) : Option Int :=
  (((adx fu s_0 fu (min (max a0 (0 : Int)) (s_0.length : Int)))).bind fun (a1 : Int) => some a1)
def afu (fu : Nat) (s_0 : Str) (a0 : Int) : Option Int :=
  ((aft fu s_0 a0).bind fun (y1 : Int) => some y1)
def aey (fu : Nat) (s_0 : Str) : Option Bool :=
  (((if s_0 = ([] : Str) then some false else ((afu fu s_0 (0 : Int)).bind fun (a0 : Int) => some (decide (a0 = (s_0.length : Int)))))).bind fun (a1 : Bool) => some a1)
def agu (fu : Nat) (a0 : UInt8) : Option UInt8 :=
  (((if (65 : UInt8) ≤ a0 then some (decide (a0 ≤ (90 : UInt8))) else some false)).bind fun (v5 : Bool) => (bif v5 then some (a0 + (32 : UInt8)) else some a0))
def aky (fu : Nat) (a0 : UInt8) : Option Str :=
  (if a0 = (98 : UInt8) then some ([82, 101, 102, 101, 114, 114, 101, 100, 45, 66, 121] : Str) else (if a0 = (99 : UInt8) then some ([67, 111, 110, 116, 101, 110, 116, 45, 84, 121, 112, 101] : Str) else (if a0 = (101 : UInt8) then some ([67, 111, 110, 116, 101, 110, 116, 45, 69, 110, 99, 111, 100, 105, 110, 103] : Str) else (if a0 = (102 : UInt8) then some ([70, 114, 111, 109] : Str) else (if a0 = (105 : UInt8) then some ([67, 97, 108, 108, 45, 73, 68] : Str) else (if a0 = (107 : UInt8) then some ([83, 117, 112, 112, 111, 114, 116, 101, 100] : Str) else (if a0 = (108 : UInt8) then some ([67, 111, 110, 116, 101, 110, 116, 45, 76, 101, 110, 103, 116, 104] : Str) else (if a0 = (109 : UInt8) then some ([67, 111, 110, 116, 97, 99, 116] : Str) else (if a0 = (111 : UInt8) then some ([69, 118, 101, 110, 116] : Str) else (if a0 = (114 : UInt8) then some ([82, 101, 102, 101, 114, 45, 84, 111] : Str) else (if a0 = (115 : UInt8) then some ([83, 117, 98, 106, 101, 99, 116] : Str) else (if a0 = (116 : UInt8) then some ([84, 111] : Str) else (if a0 = (117 : UInt8) then some ([65, 108, 108, 111, 119, 45, 69, 118, 101, 110, 116, 115] : Str) else (if a0 = (118 : UInt8) then some ([86, 105, 97] : Str) else (if a0 = (120 : UInt8) then some ([83, 101, 115, 115, 105, 111, 110, 45, 69, 120, 112, 105, 114, 101, 115] : Str) else some ([] : Str))))))))))))))))
def adf (fu : Nat) (s_0 : Str) : Nat → Str → Int → Option Str
  | 0, _, _ => none
  | a2 + 1, a1, a0 => (if a0 < (s_0.length : Int) then (gd (0 ≤ a0 ∧ a0 < (a1.length : Int)) <| (gd (0 ≤ a0 ∧ a0 < (a1.length : Int)) <| ((agu fu (at_ a1 a0)).bind fun (a3 : UInt8) => (gd (0 ≤ a0 ∧ a0 < (a1.length : Int)) <| (gd (0 ≤ a0 ∧ a0 < (a1.length : Int)) <| (gd (ace (a0 + (1 : Int))) <| (adf fu s_0 a2 (List.set a1 (Int.toNat a0) a3) (a0 + (1 : Int))))))))) else some a1)
def adu (fu : Nat) (s_0 : Str) : Option Str :=
  (((adf fu s_0 fu s_0 (0 : Int))).bind fun (a0 : Str) => some a0)
def aio (fu : Nat) (a0 : UInt8) : Option UInt8 :=
  (((if (97 : UInt8) ≤ a0 then some (decide (a0 ≤ (122 : UInt8))) else some false)).bind fun (v5 : Bool) => (bif v5 then some (a0 - (32 : UInt8)) else some a0))
end Go.Wk
set_option linter.unusedVariables false
set_option linter.unusedSimpArgs false
set_option maxRecDepth 20000
set_option maxHeartbeats 1000000
namespace Go.Wk
open Go.Px
def alm (fu : Nat) (a0 : UInt8) (a1 : Bool) : Option (UInt8 × Bool) :=
  (bif a1 then ((aio fu a0).bind fun (y2 : UInt8) => some (y2, (decide (y2 = (45 : UInt8))))) else ((agu fu a0).bind fun (y9 : UInt8) => some (y9, (decide (y9 = (45 : UInt8))))))
def adk (fu : Nat) (s_0 : Str) : Nat → Str → Int → Bool → Option (Str × Bool)
  | 0, _, _, _ => none
  | a4 + 1, a1, a0, a2 => (if a0 < (s_0.length : Int) then (gd (0 ≤ a0 ∧ a0 < (a1.length : Int)) <| (gd (0 ≤ a0 ∧ a0 < (a1.length : Int)) <| ((alm fu (at_ a1 a0) a2).bind fun (a3 : (UInt8 × Bool)) => (gd (0 ≤ a0 ∧ a0 < (a1.length : Int)) <| (gd (0 ≤ a0 ∧ a0 < (a1.length : Int)) <| (gd (ace (a0 + (1 : Int))) <| (adk fu s_0 a4 (List.set a1 (Int.toNat a0) a3.1) (a0 + (1 : Int)) a3.2))))))) else some (a1, a2))
def afd (fu : Nat) (s_0 : Str) (a1 : Bool) : Option (Str × Bool) :=
  (((adk fu s_0 fu s_0 (0 : Int) a1)).bind fun (a0 : (Str × Bool)) => some (a0.1, a0.2))
def aip (fu : Nat) (a1 : Str) : Nat → Int → Option (Unit ⊕ (Str × UInt8))
  | 0, _ => none
  | a2 + 1, a0 => (if a0 < (7 : Int) then (gd (0 ≤ a0 ∧ a0 < (ahw.length : Int)) <| ((adu fu (el ahw a0)).bind fun (a3 : Str) => (if a3 = a1 then some (.inr (el ahw a0, (0 : UInt8))) else (gd (ace (a0 + (1 : Int))) <| (aip fu a1 a2 (a0 + (1 : Int))))))) else some (.inl ()))
def alh (fu : Nat) (a0 : Str) : Option (Str × UInt8) :=
  ((((aey fu a0).bind fun (a2 : Bool) => (bif (!a2) then some true else some (decide ((64 : Int) < (a0.length : Int)))))).bind fun (a3 : Bool) => (bif a3 then some (([] : Str), (5 : UInt8)) else (((if (a0.length : Int) = (1 : Int) then (gd (0 ≤ (0 : Int) ∧ (0 : Int) < (a0.length : Int)) <| ((agu fu (at_ a0 (0 : Int))).bind fun (a4 : UInt8) => ((aky fu a4).bind fun (a1 : Str) => (if a1 = ([] : Str) then some (.inl ()) else some (.inr (a1, (0 : UInt8))))))) else some (.inl ()))).bind fun (a5 : (Unit ⊕ (Str × UInt8))) => Sum.elim (fun (a9 : Unit) => ((adu fu a0).bind fun (a6 : Str) => (((aip fu a6 fu (0 : Int))).bind fun (a7 : (Unit ⊕ (Str × UInt8))) => Sum.elim (fun (b0 : Unit) => ((afd fu a0 true).bind fun (a8 : (Str × Bool)) => some (a8.1, (0 : UInt8)))) (fun q => some q) a7))) (fun q => some q) a5)))
end Go.Wk
set_option linter.unusedVariables false
set_option linter.unusedSimpArgs false
set_option maxRecDepth 20000
set_option maxHeartbeats 1000000
namespace Go.Wk
open Go.Px
def ahx (fu : Nat) (a1 : Str) : Nat → Int → Option (Unit ⊕ Int)
  | 0, _ => none
  | a2 + 1, a0 => (if a0 < (31 : Int) then (gd (0 ≤ a0 ∧ a0 < (31 : Int)) <| (gd (0 ≤ a0 ∧ a0 < (akg.length : Int)) <| (if ((el akg a0).1) = a1 then (gd (0 ≤ a0 ∧ a0 < (31 : Int)) <| (gd (0 ≤ a0 ∧ a0 < (akg.length : Int)) <| some (.inr ((el akg a0).2)))) else (gd (ace (a0 + (1 : Int))) <| (ahx fu a1 a2 (a0 + (1 : Int))))))) else some (.inl ()))
def akn (fu : Nat) (a0 : Str) : Option Int :=
  (((ahx fu a0 fu (0 : Int))).bind fun (a1 : (Unit ⊕ Int)) => Sum.elim (fun (a2 : Unit) => some (0 : Int)) (fun q => some q) a1)
def ans (fu : Nat) (a0 : Str) : Option Bool :=
  (((if a0 = ([67, 111, 110, 116, 97, 99, 116] : Str) then (if a0 = ([67, 111, 110, 116, 97, 99, 116] : Str) then some (.inr true) else some (.inl ())) else (if a0 = ([80, 97, 116, 104] : Str) then (if a0 = ([80, 97, 116, 104] : Str) then some (.inr true) else some (.inl ())) else (if a0 = ([82, 101, 99, 111, 114, 100, 45, 82, 111, 117, 116, 101] : Str) then (if a0 = ([82, 101, 99, 111, 114, 100, 45, 82, 111, 117, 116, 101] : Str) then some (.inr true) else some (.inl ())) else (if a0 = ([82, 111, 117, 116, 101] : Str) then (if a0 = ([82, 111, 117, 116, 101] : Str) then some (.inr true) else some (.inl ())) else (if a0 = ([83, 101, 114, 118, 105, 99, 101, 45, 82, 111, 117, 116, 101] : Str) then some (.inr true) else some (.inl ()))))))).bind fun (a2 : (Unit ⊕ Bool)) => Sum.elim (fun (a4 : Unit) => ((akn fu a0).bind fun (a1 : Int) => (((if a1 = (2 : Int) then some true else some (decide (a1 = (7 : Int))))).bind fun (a3 : Bool) => some a3))) (fun q => some q) a2)
def aeq (fu : Nat) (s_0 : Str) : Option Str :=
  (gd (s_0.length ≤ 1000000000) <| gd (([32, 9] : Str).length ≤ 1000 ∧ ([32, 9] : Str).all (fun b => decide (b.toNat < 128)) = true) <| some (Lib.trimS s_0 ([32, 9] : Str)))
end Go.Wk
set_option linter.unusedVariables false
set_option linter.unusedSimpArgs false
set_option maxRecDepth 20000
set_option maxHeartbeats 1000000
namespace Go.Wk
open Go.Px
def afr (fu : Nat) (a0 : UInt8) : Option Bool :=
  (((if a0 = (32 : UInt8) then some true else some (decide (a0 = (9 : UInt8))))).bind fun (v5 : Bool) => some v5)
def abe (fu : Nat) (s_0 : Str) : Nat → Int → Option Int
  | 0, _ => none
  | a1 + 1, a0 => (((if a0 < (s_0.length : Int) then (gd (0 ≤ a0 ∧ a0 < (s_0.length : Int)) <| ((afr fu (at_ s_0 a0)).bind fun (a2 : Bool) => some a2)) else some false)).bind fun (a3 : Bool) => (bif a3 then (gd (ace (a0 + (1 : Int))) <| (abe fu s_0 a1 (a0 + (1 : Int)))) else some a0))
def aep (fu : Nat) (s_0 : Str) (a0 : Int) : Option Int :=
  (((abe fu s_0 fu (min (max a0 (0 : Int)) (s_0.length : Int)))).bind fun (a1 : Int) => some a1)
def agd (fu : Nat) (s_0 : Str) (a0 : Int) : Option Int :=
  ((aep fu s_0 a0).bind fun (y1 : Int) => some y1)
def acr (fu : Nat) (a0 : (Str × Int)) : Option (Str × Int) :=
  ((agd fu a0.1 a0.2).bind fun (y1 : Int) => some (a0.1, y1))
def aek (fu : Nat) (a0 : (Str × Int)) : Option Bool :=
  some (decide ((a0.1.length : Int) ≤ a0.2))
def aap (fu : Nat) (a0 : (Str × Int)) (a1 : UInt8) : Option Bool :=
  ((((aek fu a0).bind fun (a2 : Bool) => (bif (!a2) then (gd (0 ≤ a0.2 ∧ a0.2 < (a0.1.length : Int)) <| some (decide ((at_ a0.1 a0.2) = a1))) else some false))).bind fun (a3 : Bool) => some a3)
def ajo (fu : Nat) (a0 : UInt8) : Option Bool :=
  (((if (32 : UInt8) ≤ a0 then some (decide (a0 ≤ (126 : UInt8))) else some false)).bind fun (v5 : Bool) => some v5)
def ahg (fu : Nat) (a0 : UInt8) : Option Bool :=
  (((if a0 < (32 : UInt8) then (if a0 = (9 : UInt8) then some (decide (a0 = (127 : UInt8))) else some true) else some (decide (a0 = (127 : UInt8))))).bind fun (v6 : Bool) => some v6)
end Go.Wk
set_option linter.unusedVariables false
set_option linter.unusedSimpArgs false
set_option maxRecDepth 20000
set_option maxHeartbeats 1000000
namespace Go.Wk
open Go.Px
def agk (fu : Nat) (s_0 : Str) : Nat → (List UInt8) → Int → Option (((List UInt8) × Int) ⊕ (Str × Int × UInt8))
  | 0, _, _ => none
  | a2 + 1, a1, a0 => (if a0 < (s_0.length : Int) then (gd (0 ≤ a0 ∧ a0 < (s_0.length : Int)) <| (if (at_ s_0 a0) = (34 : UInt8) then some (.inl (a1, a0)) else (if (at_ s_0 a0) = (92 : UInt8) then (gd (ace (a0 + (1 : Int))) <| (if (a0 + (1 : Int)) = (s_0.length : Int) then some (.inr (([] : Str), (s_0.length : Int), (6 : UInt8))) else (gd (ace (a0 + (1 : Int))) <| (gd (0 ≤ (a0 + (1 : Int)) ∧ (a0 + (1 : Int)) < (s_0.length : Int)) <| ((ajo fu (at_ s_0 (a0 + (1 : Int)))).bind fun (a3 : Bool) => (bif (!a3) then some (.inr (([] : Str), a0, (5 : UInt8))) else (gd (ace (a0 + (1 : Int))) <| (gd (0 ≤ (a0 + (1 : Int)) ∧ (a0 + (1 : Int)) < (s_0.length : Int)) <| (gd ((a1.length + ([at_ s_0 (a0 + (1 : Int))] : List UInt8).length) * 1 ≤ 140737488355328) <| (gd (ace ((a0 + (1 : Int)) + (1 : Int))) <| (agk fu s_0 a2 (a1 ++ ([at_ s_0 (a0 + (1 : Int))] : List UInt8)) ((a0 + (1 : Int)) + (1 : Int))))))))))))) else ((ahg fu (at_ s_0 a0)).bind fun (a4 : Bool) => (bif a4 then some (.inr (([] : Str), a0, (5 : UInt8))) else (gd (0 ≤ a0 ∧ a0 < (s_0.length : Int)) <| (gd ((a1.length + ([at_ s_0 a0] : List UInt8).length) * 1 ≤ 140737488355328) <| (gd (ace (a0 + (1 : Int))) <| (agk fu s_0 a2 (a1 ++ ([at_ s_0 a0] : List UInt8)) (a0 + (1 : Int))))))))))) else some (.inl (a1, a0)))
def aiy (fu : Nat) (s_0 : Str) (a0 : Int) : Option (Str × Int × UInt8) :=
  (((if a0 < (0 : Int) then some true else some (decide ((s_0.length : Int) < a0)))).bind fun (v5 : Bool) => (bif v5 then some (([] : Str), (0 : Int), (2 : UInt8)) else (((if a0 = (s_0.length : Int) then some true else (gd (0 ≤ a0 ∧ a0 < (s_0.length : Int)) <| some (!decide ((at_ s_0 a0) = (34 : UInt8)))))).bind fun (a2 : Bool) => (bif a2 then some (([] : Str), a0, (5 : UInt8)) else (gd (ace (a0 + (1 : Int))) <| (((agk fu s_0 fu ([] : List UInt8) (a0 + (1 : Int)))).bind fun (a3 : (((List UInt8) × Int) ⊕ (Str × Int × UInt8))) => Sum.elim (fun (a1 : ((List UInt8) × Int)) => (if (s_0.length : Int) ≤ a1.2 then some (([] : Str), (s_0.length : Int), (6 : UInt8)) else (gd (ace (a1.2 + (1 : Int))) <| some (a1.1, a1.2 + (1 : Int), (0 : UInt8))))) (fun q => some q) a3))))))
def ago (fu : Nat) (a1 : (Str × Int)) (a0 : (Str × (Str × Str × Str × Int × (List (Str × Str × Bool)) × (List (Str × Str × Bool))) × (List (Str × Str × Bool)))) : Option (Int × UInt8 × (Str × Int) × (Str × (Str × Str × Str × Int × (List (Str × Str × Bool)) × (List (Str × Str × Bool))) × (List (Str × Str × Bool)))) :=
  ((aiy fu a1.1 a1.2).bind fun (y1 : (Str × Int × UInt8)) => (if y1.2.2 = (0 : UInt8) then ((acr fu (a1.1, y1.2.1)).bind fun (a2 : (Str × Int)) => ((aap fu a2 (60 : UInt8)).bind fun (a3 : Bool) => (bif (!a3) then some (a2.2, (5 : UInt8), a2, (y1.1, a0.2.1, a0.2.2)) else some ((0 : Int), (0 : UInt8), a2, (y1.1, a0.2.1, a0.2.2))))) else some (y1.2.1, y1.2.2, a1, a0)))
def afi (fu : Nat) (a0 : (Str × Int)) : Option (Str × (Str × Int)) :=
  ((afu fu a0.1 a0.2).bind fun (y1 : Int) => (gd (0 ≤ a0.2 ∧ a0.2 ≤ y1 ∧ y1 ≤ (a0.1.length : Int)) <| some (sub a0.1 a0.2 y1, (a0.1, y1))))
def aei (fu : Nat) (a4 : (Str × (Str × Str × Str × Int × (List (Str × Str × Bool)) × (List (Str × Str × Bool))) × (List (Str × Str × Bool)))) : Nat → (List Str) → Str → Int → Option (((List Str) × Str × Int) ⊕ (Int × UInt8 × (Str × Int) × (Str × (Str × Str × Str × Int × (List (Str × Str × Bool)) × (List (Str × Str × Bool))) × (List (Str × Str × Bool)))))
  | 0, _, _, _ => none
  | a6 + 1, a1, a2, a3 => ((aap fu (a2, a3) (60 : UInt8)).bind fun (a7 : Bool) => (bif (!a7) then ((afi fu (a2, a3)).bind fun (a0 : (Str × (Str × Int))) => (if a0.1 = ([] : Str) then some (.inr (a0.2.2, (5 : UInt8), a0.2, a4)) else (gd ((a1.length + ([a0.1] : List Str).length) * 16 ≤ 140737488355328) <| ((acr fu a0.2).bind fun (a5 : (Str × Int)) => (aei fu a4 a6 (a1 ++ ([a0.1] : List Str)) a5.1 a5.2))))) else some (.inl (a1, a2, a3))))
def ags (fu : Nat) (a2 : (Str × Int)) (a1 : (Str × (Str × Str × Str × Int × (List (Str × Str × Bool)) × (List (Str × Str × Bool))) × (List (Str × Str × Bool)))) : Option (Int × UInt8 × (Str × Int) × (Str × (Str × Str × Str × Int × (List (Str × Str × Bool)) × (List (Str × Str × Bool))) × (List (Str × Str × Bool)))) :=
  (((aei fu a1 fu ([] : List Str) a2.1 a2.2)).bind fun (a3 : (((List Str) × Str × Int) ⊕ (Int × UInt8 × (Str × Int) × (Str × (Str × Str × Str × Int × (List (Str × Str × Bool)) × (List (Str × Str × Bool))) × (List (Str × Str × Bool)))))) => Sum.elim (fun (a0 : ((List Str) × Str × Int)) => (gd (a0.1.length ≤ 1000000000 ∧ (Lib.join a0.1 ([32] : Str)).length ≤ 100000000000) <| some ((0 : Int), (0 : UInt8), a0.2, (Lib.join a0.1 ([32] : Str), a1.2.1, a1.2.2)))) (fun q => some q) a3)
def acd (fu : Nat) (a1 : Str) (a0 : Int) (a2 : Str) : Option Int :=
  (gd (0 ≤ a0 ∧ a0 ≤ (a1.length : Int)) <| (gd ((List.drop (Int.toNat a0) a1).length ≤ 1000000000 ∧ a2.length ≤ 1000 ∧ a2.all (fun b => decide (b.toNat < 128)) = true ∧ (8 < (List.drop (Int.toNat a0) a1).length ∨ a2.length ≤ 1 ∨ (List.drop (Int.toNat a0) a1).all (fun b => decide (b.toNat < 128)) = true)) <| (if (0 : Int) ≤ (Lib.indexAny (List.drop (Int.toNat a0) a1) a2) then (gd (ace (a0 + (Lib.indexAny (List.drop (Int.toNat a0) a1) a2))) <| some (a0 + (Lib.indexAny (List.drop (Int.toNat a0) a1) a2))) else some (a1.length : Int))))
def agm (fu : Nat) (s_0 : Str) : Nat → Str → Int → Option Str
  | 0, _, _ => none
  | a2 + 1, a1, a0 => (if a0 < (s_0.length : Int) then (gd (0 ≤ a0 ∧ a0 < (a1.length : Int)) <| (gd (0 ≤ a0 ∧ a0 < (a1.length : Int)) <| (((if (65 : UInt8) ≤ (at_ a1 a0) then some (decide ((at_ a1 a0) ≤ (90 : UInt8))) else some false)).bind fun (a3 : Bool) => (bif a3 then (gd (0 ≤ a0 ∧ a0 < (a1.length : Int)) <| (gd (0 ≤ a0 ∧ a0 < (a1.length : Int)) <| (gd (ace (a0 + (1 : Int))) <| (agm fu s_0 a2 (List.set a1 (Int.toNat a0) ((at_ a1 a0) + (32 : UInt8))) (a0 + (1 : Int)))))) else (gd (ace (a0 + (1 : Int))) <| (agm fu s_0 a2 a1 (a0 + (1 : Int)))))))) else some a1)
def adt (fu : Nat) (s_0 : Str) : Option Str :=
  (((agm fu s_0 fu s_0 (0 : Int))).bind fun (a0 : Str) => some a0)
def aju (fu : Nat) (a0 : UInt8) : Option Bool :=
  (((if (97 : UInt8) ≤ a0 then (if a0 ≤ (122 : UInt8) then some true else (if (65 : UInt8) ≤ a0 then some (decide (a0 ≤ (90 : UInt8))) else some false)) else (if (65 : UInt8) ≤ a0 then some (decide (a0 ≤ (90 : UInt8))) else some false))).bind fun (v8 : Bool) => some v8)
def afo (fu : Nat) (a0 : UInt8) : Option Bool :=
  (((if (48 : UInt8) ≤ a0 then some (decide (a0 ≤ (57 : UInt8))) else some false)).bind fun (v5 : Bool) => some v5)
end Go.Wk
set_option linter.unusedVariables false
set_option linter.unusedSimpArgs false
set_option maxRecDepth 20000
set_option maxHeartbeats 1000000
namespace Go.Wk
open Go.Px
def aji (fu : Nat) (a1 : UInt8) (a0 : Int) : Option Bool :=
  ((((aju fu a1).bind fun (a2 : Bool) => (bif a2 then some true else ((afo fu a1).bind fun (a3 : Bool) => (bif a3 then some true else some (decide ((0 : Int) ≤ (ixb (· == a1) ([45, 95, 46, 33, 126, 42, 39, 40, 41] : Str))))))))).bind fun (a4 : Bool) => (bif a4 then some true else (((if (0 : Int) ≤ a0 then (if a0 ≤ (2 : Int) then (gd (0 ≤ a0 ∧ a0 < (3 : Int)) <| (gd (0 ≤ a0 ∧ a0 < (ajd.length : Int)) <| some (decide ((0 : Int) ≤ (ixb (· == a1) (el ajd a0)))))) else some false) else some false)).bind fun (a5 : Bool) => some a5)))
def agx (fu : Nat) (a0 : UInt8) : Option (UInt8 × Bool) :=
  ((afo fu a0).bind fun (y1 : Bool) => (bif y1 then some (a0 - (48 : UInt8), true) else (((if (97 : UInt8) ≤ a0 then some (decide (a0 ≤ (102 : UInt8))) else some false)).bind fun (a1 : Bool) => (bif a1 then some ((a0 - (97 : UInt8)) + (10 : UInt8), true) else (((if (65 : UInt8) ≤ a0 then some (decide (a0 ≤ (70 : UInt8))) else some false)).bind fun (a2 : Bool) => (bif a2 then some ((a0 - (65 : UInt8)) + (10 : UInt8), true) else some ((0 : UInt8), false)))))))
def air (fu : Nat) (s_0 : Str) (a0 : Int) : Option (UInt8 × Bool) :=
  (((gd (ace (a0 + (2 : Int))) <| (if (s_0.length : Int) ≤ (a0 + (2 : Int)) then some true else (gd (0 ≤ a0 ∧ a0 < (s_0.length : Int)) <| some (!decide ((at_ s_0 a0) = (37 : UInt8))))))).bind fun (v7 : Bool) => (bif v7 then some ((0 : UInt8), false) else (gd (ace (a0 + (1 : Int))) <| (gd (0 ≤ (a0 + (1 : Int)) ∧ (a0 + (1 : Int)) < (s_0.length : Int)) <| ((agx fu (at_ s_0 (a0 + (1 : Int)))).bind fun (a1 : (UInt8 × Bool)) => (gd (ace (a0 + (2 : Int))) <| (gd (0 ≤ (a0 + (2 : Int)) ∧ (a0 + (2 : Int)) < (s_0.length : Int)) <| ((agx fu (at_ s_0 (a0 + (2 : Int)))).bind fun (a2 : (UInt8 × Bool)) => (((gd (0 ≤ (4 : Int)) <| (bif a1.2 then some a2.2 else some false))).bind fun (a3 : Bool) => some ((shl8 a1.1 (4 : Int)) ||| a2.1, a3))))))))))
def ajj (fu : Nat) (a0 : UInt8) : Option Bool :=
  (((if a0 < (32 : UInt8) then (if a0 = (9 : UInt8) then some (decide (a0 = (127 : UInt8))) else some true) else some (decide (a0 = (127 : UInt8))))).bind fun (v6 : Bool) => some v6)
def aef (fu : Nat) (a1 : (Str × Int)) (a2 : Int) (a3 : Int) : Nat → Int → Option (Unit ⊕ (Int × Bool))
  | 0, _ => none
  | a4 + 1, a0 => (if a0 < a2 then (gd (0 ≤ a0 ∧ a0 < (a1.1.length : Int)) <| ((aji fu (at_ a1.1 a0) a3).bind fun (a6 : Bool) => (bif a6 then (gd (ace (a0 + (1 : Int))) <| (aef fu a1 a2 a3 a4 (a0 + (1 : Int)))) else (gd (0 ≤ a2 ∧ a2 ≤ (a1.1.length : Int)) <| ((air fu (List.take (Int.toNat a2) a1.1) a0).bind fun (a5 : (UInt8 × Bool)) => (((bif (!a5.2) then some true else ((ajj fu a5.1).bind fun (a7 : Bool) => some a7))).bind fun (a8 : Bool) => (bif a8 then some (.inr (a0, true)) else (gd (ace (a0 + (2 : Int))) <| (gd (ace ((a0 + (2 : Int)) + (1 : Int))) <| (aef fu a1 a2 a3 a4 ((a0 + (2 : Int)) + (1 : Int)))))))))))) else some (.inl ()))
def afh (fu : Nat) (a0 : (Str × Int)) (a1 : Int) (a2 : Int) : Option (Int × Bool) :=
  (((aef fu a0 a1 a2 fu a0.2)).bind fun (a3 : (Unit ⊕ (Int × Bool))) => Sum.elim (fun (a4 : Unit) => some ((0 : Int), false)) (fun q => some q) a3)
def afj (fu : Nat) (s_0 : Str) : Nat → (List UInt8) → Int → Option ((List UInt8) ⊕ (Str × Int × UInt8))
  | 0, _, _ => none
  | a3 + 1, a1, a0 => (if a0 < (s_0.length : Int) then (gd (0 ≤ a0 ∧ a0 < (s_0.length : Int)) <| (if (at_ s_0 a0) = (37 : UInt8) then ((air fu s_0 a0).bind fun (a2 : (UInt8 × Bool)) => (bif (!a2.2) then some (.inr (([] : Str), a0, (5 : UInt8))) else (gd ((a1.length + ([a2.1] : List UInt8).length) * 1 ≤ 140737488355328) <| (gd (ace (a0 + (2 : Int))) <| (gd (ace ((a0 + (2 : Int)) + (1 : Int))) <| (afj fu s_0 a3 (a1 ++ ([a2.1] : List UInt8)) ((a0 + (2 : Int)) + (1 : Int)))))))) else (gd (0 ≤ a0 ∧ a0 < (s_0.length : Int)) <| (gd ((a1.length + ([at_ s_0 a0] : List UInt8).length) * 1 ≤ 140737488355328) <| (gd (ace (a0 + (1 : Int))) <| (afj fu s_0 a3 (a1 ++ ([at_ s_0 a0] : List UInt8)) (a0 + (1 : Int)))))))) else some (.inl a1))
def akp (fu : Nat) (s_0 : Str) : Option (Str × Int × UInt8) :=
  (gd (0 ≤ (s_0.length : Int) ∧ (1 : Int) * (s_0.length : Int) ≤ 281474976710656) <| (((afj fu s_0 fu ([] : List UInt8) (0 : Int))).bind fun (a0 : ((List UInt8) ⊕ (Str × Int × UInt8))) => Sum.elim (fun (a1 : List UInt8) => some (a1, (0 : Int), (0 : UInt8))) (fun q => some q) a0))
def aho (fu : Nat) (s_0 : Str) : Option Str :=
  ((akp fu s_0).bind fun (y1 : (Str × Int × UInt8)) => some y1.1)
def afz (fu : Nat) (a1 : List Str) (a2 : Int) : Nat → Int → Option (Unit ⊕ ((List Str) × Bool))
  | 0, _ => none
  | a3 + 1, a0 => (if a0 < ((el a1 a2).length : Int) then (gd (0 ≤ a0 ∧ a0 < ((el a1 a2).length : Int)) <| ((agx fu (at_ (el a1 a2) a0)).bind fun (a4 : (UInt8 × Bool)) => (bif (!a4.2) then some (.inr (([] : List Str), false)) else (gd (ace (a0 + (1 : Int))) <| (afz fu a1 a2 a3 (a0 + (1 : Int))))))) else some (.inl ()))
def aga (fu : Nat) (s_0 : Str) : Nat → (List Str) → Int → Option ((List Str) ⊕ ((List Str) × Bool))
  | 0, _, _ => none
  | a3 + 1, a1, a0 => (if a0 < ((spl 58 s_0).length : Int) then (((gd (0 ≤ a0 ∧ a0 < (a1.length : Int)) <| (gd (0 ≤ a0 ∧ a0 < (a1.length : Int)) <| (((if ((el a1 a0).length : Int) < (1 : Int) then some true else some (decide ((4 : Int) < ((el a1 a0).length : Int))))).bind fun (a4 : Bool) => (bif a4 then some (.inr (([] : List Str), false)) else (((afz fu a1 a0 fu (0 : Int))).bind fun (a5 : (Unit ⊕ ((List Str) × Bool))) => Sum.elim (fun (a8 : Unit) => ((adt fu (el a1 a0)).bind fun (a2 : Str) => (gd (a2.length ≤ 1000000000) <| gd (([48] : Str).length ≤ 1000 ∧ ([48] : Str).all (fun b => decide (b.toNat < 128)) = true) <| (if (Lib.trimLeftS a2 ([48] : Str)) = ([] : Str) then (gd (0 ≤ a0 ∧ a0 < (a1.length : Int)) <| (gd (0 ≤ a0 ∧ a0 < (a1.length : Int)) <| some (.inl (List.set a1 (Int.toNat a0) ([48] : Str))))) else (gd (0 ≤ a0 ∧ a0 < (a1.length : Int)) <| (gd (0 ≤ a0 ∧ a0 < (a1.length : Int)) <| some (.inl (List.set a1 (Int.toNat a0) (Lib.trimLeftS a2 ([48] : Str)))))))))) (fun q => some (.inr q)) a5)))))).bind fun (a6 : ((List Str) ⊕ ((List Str) × Bool))) => Sum.elim (fun (a7 : List Str) => (gd (ace (a0 + (1 : Int))) <| (aga fu s_0 a3 a7 (a0 + (1 : Int))))) (fun q => some (.inr q)) a6) else some (.inl a1))
def agn (fu : Nat) (s_0 : Str) : Option ((List Str) × Bool) :=
  (gd (s_0.length ≤ 1000000000) <| (((aga fu s_0 fu (spl 58 s_0) (0 : Int))).bind fun (a0 : ((List Str) ⊕ ((List Str) × Bool))) => Sum.elim (fun (a1 : List Str) => some (a1, true)) (fun q => some q) a0))
end Go.Wk
set_option linter.unusedVariables false
set_option linter.unusedSimpArgs false
set_option maxRecDepth 20000
set_option maxHeartbeats 1000000
namespace Go.Wk
open Go.Px
def alo (fu : Nat) (s_0 : Str) : Option (Str × Bool) :=
  (if (39 : Int) < (s_0.length : Int) then some (([] : Str), false) else (gd (s_0.length ≤ 1000000000) <| (bif (!((Lib.cut s_0 ([58, 58] : Str)).2.2)) then ((agn fu s_0).bind fun (y7 : ((List Str) × Bool)) => (((gd (y7.1.length ≤ 1000000000 ∧ (Lib.join y7.1 ([58] : Str)).length ≤ 100000000000) <| (bif y7.2 then some (decide ((y7.1.length : Int) = (8 : Int))) else some false))).bind fun (a4 : Bool) => some (Lib.join y7.1 ([58] : Str), a4))) else (((if ((Lib.cut s_0 ([58, 58] : Str)).1) = ([] : Str) then some (([] : List Str), true) else ((agn fu ((Lib.cut s_0 ([58, 58] : Str)).1)).bind fun (a2 : ((List Str) × Bool)) => some (a2.1, a2.2)))).bind fun (a0 : ((List Str) × Bool)) => (((if ((Lib.cut s_0 ([58, 58] : Str)).2.1) = ([] : Str) then some (([] : List Str), true) else ((agn fu ((Lib.cut s_0 ([58, 58] : Str)).2.1)).bind fun (a3 : ((List Str) × Bool)) => some (a3.1, a3.2)))).bind fun (a1 : ((List Str) × Bool)) => (((bif (!a0.2) then some true else (bif (!a1.2) then some true else (gd (ace ((a0.1.length : Int) + (a1.1.length : Int))) <| some (decide ((7 : Int) < ((a0.1.length : Int) + (a1.1.length : Int)))))))).bind fun (a5 : Bool) => (bif a5 then some (([] : Str), false) else (gd (a0.1.length ≤ 1000000000 ∧ (Lib.join a0.1 ([58] : Str)).length ≤ 100000000000) <| (gd ((Lib.join a0.1 ([58] : Str)).length + ([58, 58] : Str).length ≤ 9223372036854775807) <| (gd (a1.1.length ≤ 1000000000 ∧ (Lib.join a1.1 ([58] : Str)).length ≤ 100000000000) <| (gd (((Lib.join a0.1 ([58] : Str)) ++ ([58, 58] : Str)).length + (Lib.join a1.1 ([58] : Str)).length ≤ 9223372036854775807) <| some (((Lib.join a0.1 ([58] : Str)) ++ ([58, 58] : Str)) ++ (Lib.join a1.1 ([58] : Str)), true))))))))))))
def agv (fu : Nat) (s_0 : Str) (a1 : Int) : Nat → Int → Int → Option (Int ⊕ Bool)
  | 0, _, _ => none
  | a3 + 1, a2, a0 => (if a0 < ((el (spl 46 s_0) a1).length : Int) then (gd (0 ≤ a0 ∧ a0 < ((el (spl 46 s_0) a1).length : Int)) <| ((afo fu (at_ (el (spl 46 s_0) a1) a0)).bind fun (a4 : Bool) => (bif (!a4) then some (.inr false) else (gd (ace ((10 : Int) * a2)) <| (gd (0 ≤ a0 ∧ a0 < ((el (spl 46 s_0) a1).length : Int)) <| (gd (ace (((10 : Int) * a2) + (((at_ (el (spl 46 s_0) a1) a0) - (48 : UInt8)).toNat : Int))) <| (gd (ace (a0 + (1 : Int))) <| (agv fu s_0 a1 a3 (((10 : Int) * a2) + (((at_ (el (spl 46 s_0) a1) a0) - (48 : UInt8)).toNat : Int)) (a0 + (1 : Int)))))))))) else some (.inl a2))
def agw (fu : Nat) (s_0 : Str) : Nat → Int → Option (Unit ⊕ Bool)
  | 0, _ => none
  | a2 + 1, a0 => (if a0 < ((spl 46 s_0).length : Int) then (((gd (0 ≤ a0 ∧ a0 < ((spl 46 s_0).length : Int)) <| (gd (0 ≤ a0 ∧ a0 < ((spl 46 s_0).length : Int)) <| (((agv fu s_0 a0 fu (0 : Int) (0 : Int))).bind fun (a3 : (Int ⊕ Bool)) => Sum.elim (fun (a1 : Int) => (((if (el (spl 46 s_0) a0) = ([] : Str) then some true else (if (255 : Int) < a1 then some true else (gd (ace a1) <| some (!decide ((el (spl 46 s_0) a0) = (Lib.itoa a1))))))).bind fun (a4 : Bool) => (bif a4 then some (.inr false) else some (.inl ())))) (fun q => some (.inr q)) a3)))).bind fun (a5 : (Unit ⊕ Bool)) => Sum.elim (fun (a6 : Unit) => (gd (ace (a0 + (1 : Int))) <| (agw fu s_0 a2 (a0 + (1 : Int))))) (fun q => some (.inr q)) a5) else some (.inl ()))
def ala (fu : Nat) (s_0 : Str) : Option Bool :=
  (if (15 : Int) < (s_0.length : Int) then some false else (gd (s_0.length ≤ 1000000000) <| (((agw fu s_0 fu (0 : Int))).bind fun (a0 : (Unit ⊕ Bool)) => Sum.elim (fun (a1 : Unit) => some (decide (((spl 46 s_0).length : Int) = (4 : Int)))) (fun q => some q) a0)))
def aki (fu : Nat) (s_0 : Str) (a0 : Str) (a1 : Int) : Option (Str × Str × Int) :=
  some (a0, s_0, a1)
def akj (fu : Nat) (s_0 : Str) (a0 : Str) : Option (Str × Str × Int) :=
  ((aki fu s_0 a0 (0 : Int)).bind fun (y1 : (Str × Str × Int)) => some (y1.1, y1.2.1, y1.2.2))
def aez (fu : Nat) (a1 : Str) (a2 : Bool) : Nat → Int → Bool → Option ((Nat × Bool × Bool))
  | 0, _, _ => none
  | a4 + 1, a0, a3 => (if a0 < (a1.length : Int) then (gd (0 ≤ a0 ∧ a0 < (a1.length : Int)) <| ((((aju fu (at_ a1 a0)).bind fun (a5 : Bool) => (bif (!a5) then ((afo fu (at_ a1 a0)).bind fun (a6 : Bool) => (bif (!a6) then some (!decide ((at_ a1 a0) = (45 : UInt8))) else some false)) else some false))).bind fun (a7 : Bool) => (bif a7 then some (1, a3, false) else (bif a3 then (gd (ace (a0 + (1 : Int))) <| (aez fu a1 a2 a4 (a0 + (1 : Int)) true)) else ((afo fu (at_ a1 a0)).bind fun (a8 : Bool) => (gd (ace (a0 + (1 : Int))) <| (aez fu a1 a2 a4 (a0 + (1 : Int)) (!a8)))))))) else some (0, a3, a2))
def agl (fu : Nat) (a0 : Str) (a1 : Bool) (a2 : Bool) : Option (Nat × Bool × Bool) :=
  (((if (a0.length : Int) < (1 : Int) then some true else (if (63 : Int) < (a0.length : Int) then some true else (gd (0 ≤ (0 : Int) ∧ (0 : Int) < (a0.length : Int)) <| (if (at_ a0 (0 : Int)) = (45 : UInt8) then some true else (gd (ace ((a0.length : Int) - (1 : Int))) <| (gd (0 ≤ ((a0.length : Int) - (1 : Int)) ∧ ((a0.length : Int) - (1 : Int)) < (a0.length : Int)) <| some (decide ((at_ a0 ((a0.length : Int) - (1 : Int))) = (45 : UInt8)))))))))).bind fun (a3 : Bool) => (bif a3 then some (1, a1, false) else (aez fu a0 a2 fu (0 : Int) a1)))
def adr (fu : Nat) (a0 : Str) : Nat → Option Unit
  | 0 => none
  | a1 + 1 => (if (0 : Int) < (a0.length : Int) then none else some ())
def act (fu : Nat) (a1 : Str) (a3 : Int) : Nat → Bool → Bool → Str → Option ((Bool × Bool × Str) ⊕ (Bool × Bool × Str × Nat))
  | 0, _, _, _ => none
  | a6 + 1, a4, a5, a0 => (gd (a0.length ≤ 1000000000) <| (if (Lib.index a0 a1) < (0 : Int) then some (.inl (a4, a5, a0)) else (gd (ace ((Lib.index a0 a1) + a3)) <| (gd (0 ≤ ((Lib.index a0 a1) + a3) ∧ ((Lib.index a0 a1) + a3) ≤ (a0.length : Int)) <| ((agl fu (List.take (Int.toNat ((Lib.index a0 a1) + a3)) a0) a4 a5).bind fun (a2 : (Nat × Bool × Bool)) => (if a2.1 = 0 then (gd (ace ((Lib.index a0 a1) + (a1.length : Int))) <| (gd (0 ≤ ((Lib.index a0 a1) + (a1.length : Int)) ∧ ((Lib.index a0 a1) + (a1.length : Int)) ≤ (a0.length : Int)) <| (act fu a1 a3 a6 a2.2.1 a2.2.2 (List.drop (Int.toNat ((Lib.index a0 a1) + (a1.length : Int))) a0)))) else some (.inr (a2.2.1, a2.2.2, a0, a2.1))))))))
def aee (fu : Nat) (a3 : Bool) (a4 : Bool) (a5 : Str) (a2 : Str) (a6 : Int) : Option (Bool × Bool × Str × Nat) :=
  (((if (a5.length : Int) = (0 : Int) then (((adr fu a2 fu)).bind fun (a9 : Unit) => some (.inr (a3, a4, a2, 0))) else some (.inl ()))).bind fun (a7 : (Unit ⊕ (Bool × Bool × Str × Nat))) => Sum.elim (fun (b0 : Unit) => (((act fu a5 a6 fu a3 a4 a2)).bind fun (a8 : ((Bool × Bool × Str) ⊕ (Bool × Bool × Str × Nat))) => Sum.elim (fun (a1 : (Bool × Bool × Str)) => ((agl fu a1.2.2 a1.1 a1.2.1).bind fun (a0 : (Nat × Bool × Bool)) => (if a0.1 = 0 then some (a0.2.1, a0.2.2, a1.2.2, 0) else some (a0.2.1, a0.2.2, a1.2.2, a0.1)))) (fun q => some q) a8)) (fun q => some q) a7)
def amg (fu : Nat) (s_0 : Str) : Option Bool :=
  (((if (s_0.length : Int) < (1 : Int) then some true else some (decide ((255 : Int) < (s_0.length : Int))))).bind fun (v8 : Bool) => (bif v8 then some false else ((akj fu s_0 ([46] : Str)).bind fun (a1 : (Str × Str × Int)) => ((aee fu false false a1.1 a1.2.1 a1.2.2).bind fun (a0 : (Bool × Bool × Str × Nat)) => (if a0.2.2.2 = 0 then some a0.1 else (if a0.2.2.2 = 1 then some a0.2.1 else none))))))
def age (fu : Nat) (s_0 : Str) : Option (Str × Bool) :=
  (((if (2 : Int) ≤ (s_0.length : Int) then (gd (0 ≤ (0 : Int) ∧ (0 : Int) < (s_0.length : Int)) <| (if (at_ s_0 (0 : Int)) = (91 : UInt8) then (gd (ace ((s_0.length : Int) - (1 : Int))) <| (gd (0 ≤ ((s_0.length : Int) - (1 : Int)) ∧ ((s_0.length : Int) - (1 : Int)) < (s_0.length : Int)) <| some (decide ((at_ s_0 ((s_0.length : Int) - (1 : Int))) = (93 : UInt8))))) else some false)) else some false)).bind fun (v9 : Bool) => (bif v9 then (gd (ace ((s_0.length : Int) - (1 : Int))) <| (gd (0 ≤ (1 : Int) ∧ (1 : Int) ≤ ((s_0.length : Int) - (1 : Int)) ∧ ((s_0.length : Int) - (1 : Int)) ≤ (s_0.length : Int)) <| ((alo fu (sub s_0 (1 : Int) ((s_0.length : Int) - (1 : Int)))).bind fun (a0 : (Str × Bool)) => (bif (!a0.2) then some (([] : Str), false) else (gd (([91] : Str).length + a0.1.length ≤ 9223372036854775807) <| (gd ((([91] : Str) ++ a0.1).length + ([93] : Str).length ≤ 9223372036854775807) <| some ((([91] : Str) ++ a0.1) ++ ([93] : Str), true))))))) else ((ala fu s_0).bind fun (a1 : Bool) => (bif a1 then some (s_0, true) else ((amg fu s_0).bind fun (a2 : Bool) => (bif a2 then ((adt fu s_0).bind fun (a3 : Str) => some (a3, true)) else some (([] : Str), false)))))))
end Go.Wk
set_option linter.unusedVariables false
set_option linter.unusedSimpArgs false
set_option maxRecDepth 20000
set_option maxHeartbeats 1000000
namespace Go.Wk
open Go.Px
def aeh (fu : Nat) (s_0 : Str) : Nat → Int → Int → Option (Int ⊕ (Int × UInt8))
  | 0, _, _ => none
  | a2 + 1, a1, a0 => (if a0 < (s_0.length : Int) then (((gd (0 ≤ a0 ∧ a0 < (s_0.length : Int)) <| (if (at_ s_0 a0) < (48 : UInt8) then some true else (gd (0 ≤ a0 ∧ a0 < (s_0.length : Int)) <| some (decide ((57 : UInt8) < (at_ s_0 a0))))))).bind fun (a3 : Bool) => (bif a3 then some (.inr ((0 : Int), (5 : UInt8))) else (gd (ace ((10 : Int) * a1)) <| (gd (0 ≤ a0 ∧ a0 < (s_0.length : Int)) <| (gd (ace (((10 : Int) * a1) + (((at_ s_0 a0) - (48 : UInt8)).toNat : Int))) <| (gd (ace (a0 + (1 : Int))) <| (aeh fu s_0 a2 (((10 : Int) * a1) + (((at_ s_0 a0) - (48 : UInt8)).toNat : Int)) (a0 + (1 : Int))))))))) else some (.inl a1))
def agc (fu : Nat) (s_0 : Str) : Option (Int × UInt8) :=
  (((if (s_0.length : Int) < (1 : Int) then some true else some (decide ((10 : Int) < (s_0.length : Int))))).bind fun (v5 : Bool) => (bif v5 then some ((0 : Int), (5 : UInt8)) else (((aeh fu s_0 fu (0 : Int) (0 : Int))).bind fun (a1 : (Int ⊕ (Int × UInt8))) => Sum.elim (fun (a0 : Int) => (if (2147483647 : Int) < a0 then some ((0 : Int), (3 : UInt8)) else some (a0, (0 : UInt8)))) (fun q => some q) a1)))
def ail (fu : Nat) (a0 : (Str × Int)) (a1 : (Str × Str × Str × Int × (List (Str × Str × Bool)) × (List (Str × Str × Bool)))) : Option (Int × UInt8 × (Str × Int) × (Str × Str × Str × Int × (List (Str × Str × Bool)) × (List (Str × Str × Bool)))) :=
  (((gd (0 ≤ a0.2 ∧ a0.2 ≤ (a0.1.length : Int)) <| (if (0 : Int) ≤ (ixb (· == (64 : UInt8)) (List.drop (Int.toNat a0.2) a0.1)) then (gd (ace (a0.2 + (ixb (· == (64 : UInt8)) (List.drop (Int.toNat a0.2) a0.1)))) <| ((afh fu a0 (a0.2 + (ixb (· == (64 : UInt8)) (List.drop (Int.toNat a0.2) a0.1))) (0 : Int)).bind fun (a4 : (Int × Bool)) => (bif a4.2 then (gd (0 ≤ a4.1 ∧ a4.1 < (a0.1.length : Int)) <| (if (at_ a0.1 a4.1) = (58 : UInt8) then some (.inr (a4.1, (15 : UInt8), a0, a1)) else some (.inr (a4.1, (5 : UInt8), a0, a1)))) else (if (ixb (· == (64 : UInt8)) (List.drop (Int.toNat a0.2) a0.1)) = (0 : Int) then some (.inr (a0.2 + (ixb (· == (64 : UInt8)) (List.drop (Int.toNat a0.2) a0.1)), (5 : UInt8), a0, a1)) else (gd (0 ≤ a0.2 ∧ a0.2 ≤ (a0.2 + (ixb (· == (64 : UInt8)) (List.drop (Int.toNat a0.2) a0.1))) ∧ (a0.2 + (ixb (· == (64 : UInt8)) (List.drop (Int.toNat a0.2) a0.1))) ≤ (a0.1.length : Int)) <| ((aho fu (sub a0.1 a0.2 (a0.2 + (ixb (· == (64 : UInt8)) (List.drop (Int.toNat a0.2) a0.1))))).bind fun (b0 : Str) => (gd (ace ((a0.2 + (ixb (· == (64 : UInt8)) (List.drop (Int.toNat a0.2) a0.1))) + (1 : Int))) <| some (.inl ((a0.2 + (ixb (· == (64 : UInt8)) (List.drop (Int.toNat a0.2) a0.1))) + (1 : Int), b0))))))))) else some (.inl (a0.2, a1.2.1))))).bind fun (b1 : ((Int × Str) ⊕ (Int × UInt8 × (Str × Int) × (Str × Str × Str × Int × (List (Str × Str × Bool)) × (List (Str × Str × Bool)))))) => Sum.elim (fun (a3 : (Int × Str)) => ((acd fu a0.1 a3.1 ([58, 59, 63] : Str)).bind fun (b2 : Int) => ((((aap fu (a0.1, a3.1) (91 : UInt8)).bind fun (b3 : Bool) => (bif b3 then ((acd fu a0.1 a3.1 ([93] : Str)).bind fun (a8 : Int) => (gd (ace (a8 + (1 : Int))) <| some (min (a8 + (1 : Int)) (a0.1.length : Int)))) else some b2))).bind fun (a2 : Int) => (gd (0 ≤ a3.1 ∧ a3.1 ≤ a2 ∧ a2 ≤ (a0.1.length : Int)) <| ((age fu (sub a0.1 a3.1 a2)).bind fun (a5 : (Str × Bool)) => (bif (!a5.2) then some (a3.1, (5 : UInt8), (a0.1, a3.1), (a1.1, a3.2, a1.2.2.1, a1.2.2.2.1, a1.2.2.2.2.1, a1.2.2.2.2.2)) else ((aap fu (a0.1, a2) (58 : UInt8)).bind fun (b4 : Bool) => (bif b4 then (gd (ace (a2 + (1 : Int))) <| ((acd fu a0.1 (a2 + (1 : Int)) ([59, 63] : Str)).bind fun (a7 : Int) => (gd (0 ≤ (a2 + (1 : Int)) ∧ (a2 + (1 : Int)) ≤ a7 ∧ a7 ≤ (a0.1.length : Int)) <| ((agc fu (sub a0.1 (a2 + (1 : Int)) a7)).bind fun (a6 : (Int × UInt8)) => (((((if a6.2 = (0 : UInt8) then (if a6.1 < (1 : Int) then some true else some (decide ((65535 : Int) < a6.1))) else some false)).bind fun (b5 : Bool) => (bif b5 then some (3 : UInt8) else some a6.2))).bind fun (a9 : UInt8) => (if a9 = (0 : UInt8) then some ((0 : Int), (0 : UInt8), (a0.1, a7), (a1.1, a3.2, a5.1, a6.1, a1.2.2.2.2.1, a1.2.2.2.2.2)) else some (a2 + (1 : Int), a9, (a0.1, a2 + (1 : Int)), (a1.1, a3.2, a5.1, a1.2.2.2.1, a1.2.2.2.2.1, a1.2.2.2.2.2)))))))) else ((((aek fu (a0.1, a2)).bind fun (b6 : Bool) => (bif (!b6) then ((aap fu (a0.1, a2) (59 : UInt8)).bind fun (b7 : Bool) => (bif (!b7) then ((aap fu (a0.1, a2) (63 : UInt8)).bind fun (b8 : Bool) => some (!b8)) else some false)) else some false))).bind fun (b9 : Bool) => (bif b9 then some (a2, (5 : UInt8), (a0.1, a2), (a1.1, a3.2, a5.1, a1.2.2.2.1, a1.2.2.2.2.1, a1.2.2.2.2.2)) else some ((0 : Int), (0 : UInt8), (a0.1, a2), (a1.1, a3.2, a5.1, a1.2.2.2.1, a1.2.2.2.2.1, a1.2.2.2.2.2)))))))))))) (fun q => some q) b1)
def afa (fu : Nat) (a1 : (Str × Int)) (a3 : (Str × Str × Str × Int × (List (Str × Str × Bool)) × (List (Str × Str × Bool)))) (y1 : Int) (y6 : Bool) : Nat → (List UInt8) → Int → Option (((List UInt8) × Int) ⊕ (Int × UInt8 × (Str × Int) × (Str × Str × Str × Int × (List (Str × Str × Bool)) × (List (Str × Str × Bool)))))
  | 0, _, _ => none
  | a5 + 1, a2, a0 => (if a0 < y1 then (((gd (0 ≤ a0 ∧ a0 < (a1.1.length : Int)) <| (((((if (48 : UInt8) ≤ (at_ a1.1 a0) then some (decide ((at_ a1.1 a0) ≤ (57 : UInt8))) else some false)).bind fun (a4 : Bool) => (bif a4 then some a4 else (bif (!y6) then (if (at_ a1.1 a0) = (42 : UInt8) then some true else some (decide ((at_ a1.1 a0) = (35 : UInt8)))) else some false)))).bind fun (a6 : Bool) => (bif a6 then (gd ((a2.length + ([at_ a1.1 a0] : List UInt8).length) * 1 ≤ 140737488355328) <| some (.inl (a2 ++ ([at_ a1.1 a0] : List UInt8)))) else (((if (at_ a1.1 a0) = (45 : UInt8) then some false else (if (at_ a1.1 a0) = (46 : UInt8) then some false else (if (at_ a1.1 a0) = (40 : UInt8) then some false else some (!decide ((at_ a1.1 a0) = (41 : UInt8))))))).bind fun (a7 : Bool) => (bif a7 then some (.inr (a0, (5 : UInt8), (a1.1, a0), a3)) else some (.inl a2))))))).bind fun (a8 : ((List UInt8) ⊕ (Int × UInt8 × (Str × Int) × (Str × Str × Str × Int × (List (Str × Str × Bool)) × (List (Str × Str × Bool)))))) => Sum.elim (fun (a9 : List UInt8) => (gd (ace (a0 + (1 : Int))) <| (afa fu a1 a3 y1 y6 a5 a9 (a0 + (1 : Int))))) (fun q => some (.inr q)) a8) else some (.inl (a2, a0)))
def aia (fu : Nat) (a1 : (Str × Int)) (a0 : (Str × Str × Str × Int × (List (Str × Str × Bool)) × (List (Str × Str × Bool)))) : Option (Int × UInt8 × (Str × Int) × (Str × Str × Str × Int × (List (Str × Str × Bool)) × (List (Str × Str × Bool)))) :=
  ((acd fu a1.1 a1.2 ([59] : Str)).bind fun (y1 : Int) => ((aap fu a1 (43 : UInt8)).bind fun (y6 : Bool) => (((bif y6 then (gd ((([] : List UInt8).length + ([(43 : UInt8)] : List UInt8).length) * 1 ≤ 140737488355328) <| (gd (ace (a1.2 + (1 : Int))) <| some (([] : List UInt8) ++ ([(43 : UInt8)] : List UInt8), a1.2 + (1 : Int)))) else some (([] : List UInt8), a1.2))).bind fun (a3 : ((List UInt8) × Int)) => (((afa fu a1 a0 y1 y6 fu a3.1 a3.2)).bind fun (a4 : (((List UInt8) × Int) ⊕ (Int × UInt8 × (Str × Int) × (Str × Str × Str × Int × (List (Str × Str × Bool)) × (List (Str × Str × Bool)))))) => Sum.elim (fun (a2 : ((List UInt8) × Int)) => (if (Lib.trimPrefix a2.1 ([43] : Str)) = ([] : Str) then some (a1.2, (5 : UInt8), (a1.1, a2.2), (a0.1, a2.1, a0.2.2.1, a0.2.2.2.1, a0.2.2.2.2.1, a0.2.2.2.2.2)) else (if (30 : Int) < ((Lib.trimPrefix a2.1 ([43] : Str)).length : Int) then some (a1.2, (4 : UInt8), (a1.1, a2.2), (a0.1, a2.1, a0.2.2.1, a0.2.2.2.1, a0.2.2.2.2.1, a0.2.2.2.2.2)) else some ((0 : Int), (0 : UInt8), (a1.1, a2.2), (a0.1, a2.1, a0.2.2.1, a0.2.2.2.1, a0.2.2.2.2.1, a0.2.2.2.2.2))))) (fun q => some q) a4))))
def alb (fu : Nat) (a0 : (Str × Str × Bool)) (a1 : Str) : Option Bool :=
  some (decide (a0.1 = a1))
def aco (fu : Nat) (s_0 : List (Str × Str × Bool)) (a1 : Str) : Nat → Int → Option (Unit ⊕ Int)
  | 0, _ => none
  | a2 + 1, a0 => (if a0 < (s_0.length : Int) then (gd (0 ≤ a0 ∧ a0 < (s_0.length : Int)) <| (gd (0 ≤ a0 ∧ a0 < (s_0.length : Int)) <| ((alb fu ((el s_0 a0).1, (el s_0 a0).2.1, ((el s_0 a0).2.2)) a1).bind fun (a3 : Bool) => (bif a3 then some (.inr a0) else (gd (ace (a0 + (1 : Int))) <| (aco fu s_0 a1 a2 (a0 + (1 : Int)))))))) else some (.inl ()))
def aea (fu : Nat) (s_0 : List (Str × Str × Bool)) (a0 : Str) : Option Int :=
  (((aco fu s_0 a0 fu (0 : Int))).bind fun (a1 : (Unit ⊕ Int)) => Sum.elim (fun (a2 : Unit) => some (-1 : Int)) (fun q => some q) a1)
def adq (fu : Nat) (s_0 : List (Str × Str × Bool)) (a0 : Str) : Option Bool :=
  ((aea fu s_0 a0).bind fun (y1 : Int) => some (decide ((0 : Int) ≤ y1)))
def aiz (fu : Nat) (a0 : List (Str × Str × Bool)) (a1 : Str) : Option Bool :=
  ((adq fu a0 a1).bind fun (y4 : Bool) => some y4)
def ali (fu : Nat) (a0 : List (Str × Str × Bool)) (a1 : Str) : Option UInt8 :=
  ((aiz fu a0 a1).bind fun (y1 : Bool) => (bif y1 then some (7 : UInt8) else (if (16 : Int) ≤ (a0.length : Int) then some (4 : UInt8) else some (0 : UInt8))))
end Go.Wk
set_option linter.unusedVariables false
set_option linter.unusedSimpArgs false
set_option maxRecDepth 20000
set_option maxHeartbeats 1000000
namespace Go.Wk
open Go.Px
def agr (fu : Nat) (a0 : (Str × Int)) (a4 : List (Str × Str × Bool)) (a1 : Int) (a3 : Int) : Option ((List (Str × Str × Bool)) × Int × UInt8 × (Str × Int)) :=
  (gd (0 ≤ a0.2 ∧ a0.2 ≤ a1 ∧ a1 ≤ (a0.1.length : Int)) <| (((if (0 : Int) ≤ (ixb (· == (61 : UInt8)) (sub a0.1 a0.2 a1)) then (gd (ace (a0.2 + (ixb (· == (61 : UInt8)) (sub a0.1 a0.2 a1)))) <| some (a0.2 + (ixb (· == (61 : UInt8)) (sub a0.1 a0.2 a1)))) else some a1)).bind fun (a2 : Int) => ((afh fu a0 a2 a3).bind fun (a6 : (Int × Bool)) => (bif a6.2 then some (([] : List (Str × Str × Bool)), a6.1, (5 : UInt8), a0) else (if a2 = a0.2 then some (([] : List (Str × Str × Bool)), a0.2, (5 : UInt8), a0) else (gd (0 ≤ a0.2 ∧ a0.2 ≤ a2 ∧ a2 ≤ (a0.1.length : Int)) <| ((aho fu (sub a0.1 a0.2 a2)).bind fun (b0 : Str) => ((adt fu b0).bind fun (a5 : Str) => (((if (0 : Int) ≤ (ixb (· == (61 : UInt8)) (sub a0.1 a0.2 a1)) then (gd (ace (a2 + (1 : Int))) <| ((afh fu (a0.1, a2 + (1 : Int)) a1 a3).bind fun (a7 : (Int × Bool)) => (bif a7.2 then some (.inr (([] : List (Str × Str × Bool)), a7.1, (5 : UInt8), (a0.1, a2 + (1 : Int)))) else (((if (a2 + (1 : Int)) = a1 then some (decide (a3 = (1 : Int))) else some false)).bind fun (b1 : Bool) => (bif b1 then some (.inr (([] : List (Str × Str × Bool)), a1, (5 : UInt8), (a0.1, a2 + (1 : Int)))) else (gd (0 ≤ (a2 + (1 : Int)) ∧ (a2 + (1 : Int)) ≤ a1 ∧ a1 ≤ (a0.1.length : Int)) <| ((aho fu (sub a0.1 (a2 + (1 : Int)) a1)).bind fun (b2 : Str) => some (.inl b2)))))))) else (if a3 = (2 : Int) then some (.inr (([] : List (Str × Str × Bool)), a1, (5 : UInt8), (a0.1, a1))) else some (.inl ([] : Str))))).bind fun (b3 : (Str ⊕ ((List (Str × Str × Bool)) × Int × UInt8 × (Str × Int)))) => Sum.elim (fun (a8 : Str) => ((ali fu a4 a5).bind fun (a9 : UInt8) => (if a9 = (0 : UInt8) then (gd ((a4.length + ([(a5, a8, (decide ((0 : Int) ≤ (ixb (· == (61 : UInt8)) (sub a0.1 a0.2 a1)))))] : List (Str × Str × Bool)).length) * 40 ≤ 140737488355328) <| some (a4 ++ ([(a5, a8, (decide ((0 : Int) ≤ (ixb (· == (61 : UInt8)) (sub a0.1 a0.2 a1)))))] : List (Str × Str × Bool)), (0 : Int), (0 : UInt8), (a0.1, a1))) else some (([] : List (Str × Str × Bool)), a0.2, a9, (a0.1, a1))))) (fun q => some q) b3)))))))))
def aiq (fu : Nat) (a0 : Str) : Option Bool :=
  some (!decide (a0 = a0))
def ahh (fu : Nat) (a0 : Str) (a1 : Str) : Option Int :=
  ((aiq fu a0).bind fun (y1 : Bool) => ((aiq fu a1).bind fun (y6 : Bool) => (bif y1 then (bif y6 then some (0 : Int) else some (-1 : Int)) else (bif y6 then some (1 : Int) else (bif (Op.bytesLess a0 a1) then some (-1 : Int) else (bif (!(Op.bytesLess a0 a1 || a0 == a1)) then some (1 : Int) else some (0 : Int)))))))
def afs (fu : Nat) (a0 : (Str × Str × Bool)) (a1 : (Str × Str × Bool)) : Option Int :=
  ((ahh fu a0.1 a1.1).bind fun (y7 : Int) => some y7)
def abf (fu : Nat) (a2 : Int) : Nat → (List (Str × Str × Bool)) → Int → Option (List (Str × Str × Bool))
  | 0, _, _ => none
  | a3 + 1, a1, a0 => (((if a2 < a0 then (gd (0 ≤ a0 ∧ a0 < (a1.length : Int)) <| (gd (0 ≤ a0 ∧ a0 < (a1.length : Int)) <| (gd (ace (a0 - (1 : Int))) <| (gd (0 ≤ (a0 - (1 : Int)) ∧ (a0 - (1 : Int)) < (a1.length : Int)) <| (gd (0 ≤ (a0 - (1 : Int)) ∧ (a0 - (1 : Int)) < (a1.length : Int)) <| ((afs fu ((el a1 a0).1, (el a1 a0).2.1, ((el a1 a0).2.2)) ((el a1 (a0 - (1 : Int))).1, (el a1 (a0 - (1 : Int))).2.1, ((el a1 (a0 - (1 : Int))).2.2))).bind fun (a4 : Int) => some (decide (a4 < (0 : Int))))))))) else some false)).bind fun (a5 : Bool) => (bif a5 then (gd (ace (a0 - (1 : Int))) <| (gd (ace (a0 - (1 : Int))) <| (gd (0 ≤ (a0 - (1 : Int)) ∧ (a0 - (1 : Int)) < (a1.length : Int)) <| (gd (0 ≤ (a0 - (1 : Int)) ∧ (a0 - (1 : Int)) < (a1.length : Int)) <| (gd (0 ≤ a0 ∧ a0 < (a1.length : Int)) <| (gd (0 ≤ a0 ∧ a0 < (a1.length : Int)) <| (gd (0 ≤ a0 ∧ a0 < (a1.length : Int)) <| (gd (0 ≤ a0 ∧ a0 < (a1.length : Int)) <| (gd (0 ≤ (a0 - (1 : Int)) ∧ (a0 - (1 : Int)) < ((List.set a1 (Int.toNat a0) ((el a1 (a0 - (1 : Int))).1, (el a1 (a0 - (1 : Int))).2.1, ((el a1 (a0 - (1 : Int))).2.2))).length : Int)) <| (gd (0 ≤ (a0 - (1 : Int)) ∧ (a0 - (1 : Int)) < ((List.set a1 (Int.toNat a0) ((el a1 (a0 - (1 : Int))).1, (el a1 (a0 - (1 : Int))).2.1, ((el a1 (a0 - (1 : Int))).2.2))).length : Int)) <| (gd (ace (a0 - (1 : Int))) <| (abf fu a2 a3 (List.set (List.set a1 (Int.toNat a0) ((el a1 (a0 - (1 : Int))).1, (el a1 (a0 - (1 : Int))).2.1, ((el a1 (a0 - (1 : Int))).2.2))) (Int.toNat (a0 - (1 : Int))) ((el a1 a0).1, (el a1 a0).2.1, ((el a1 a0).2.2))) (a0 - (1 : Int)))))))))))))) else some a1))
def abg (fu : Nat) (a1 : Int) (a2 : Int) : Nat → (List (Str × Str × Bool)) → Int → Option (List (Str × Str × Bool))
  | 0, _, _ => none
  | a4 + 1, a3, a0 => (if a0 < a2 then (((abf fu a1 fu a3 a0)).bind fun (a5 : List (Str × Str × Bool)) => (gd (ace (a0 + (1 : Int))) <| (abg fu a1 a2 a4 a5 (a0 + (1 : Int))))) else some a3)
def abm (fu : Nat) (a1 : List (Str × Str × Bool)) (a0 : Int) (a2 : Int) : Option (List (Str × Str × Bool)) :=
  (gd (ace (a0 + (1 : Int))) <| (abg fu a0 a2 fu a1 (a0 + (1 : Int))))
def abl (fu : Nat) (a3 : Int) (a2 : Int) (a4 : Int) : Nat → (List (Str × Str × Bool)) → Int → Option (List (Str × Str × Bool))
  | 0, _, _ => none
  | a5 + 1, a1, a0 => (if a0 < a4 then (gd (ace (a3 + a0)) <| (gd (ace (a2 + a0)) <| (gd (ace (a2 + a0)) <| (gd (0 ≤ (a2 + a0) ∧ (a2 + a0) < (a1.length : Int)) <| (gd (0 ≤ (a2 + a0) ∧ (a2 + a0) < (a1.length : Int)) <| (gd (ace (a3 + a0)) <| (gd (0 ≤ (a3 + a0) ∧ (a3 + a0) < (a1.length : Int)) <| (gd (0 ≤ (a3 + a0) ∧ (a3 + a0) < (a1.length : Int)) <| (gd (0 ≤ (a3 + a0) ∧ (a3 + a0) < (a1.length : Int)) <| (gd (0 ≤ (a3 + a0) ∧ (a3 + a0) < (a1.length : Int)) <| (gd (0 ≤ (a2 + a0) ∧ (a2 + a0) < ((List.set a1 (Int.toNat (a3 + a0)) ((el a1 (a2 + a0)).1, (el a1 (a2 + a0)).2.1, ((el a1 (a2 + a0)).2.2))).length : Int)) <| (gd (0 ≤ (a2 + a0) ∧ (a2 + a0) < ((List.set a1 (Int.toNat (a3 + a0)) ((el a1 (a2 + a0)).1, (el a1 (a2 + a0)).2.1, ((el a1 (a2 + a0)).2.2))).length : Int)) <| (gd (ace (a0 + (1 : Int))) <| (abl fu a3 a2 a4 a5 (List.set (List.set a1 (Int.toNat (a3 + a0)) ((el a1 (a2 + a0)).1, (el a1 (a2 + a0)).2.1, ((el a1 (a2 + a0)).2.2))) (Int.toNat (a2 + a0)) ((el a1 (a3 + a0)).1, (el a1 (a3 + a0)).2.1, ((el a1 (a3 + a0)).2.2))) (a0 + (1 : Int)))))))))))))))) else some a1)
def abb (fu : Nat) (a0 : List (Str × Str × Bool)) (a1 : Int) (a2 : Int) (a3 : Int) : Option (List (Str × Str × Bool)) :=
  (abl fu a1 a2 a3 fu a0 (0 : Int))
def aba (fu : Nat) (a2 : Int) : Nat → (List (Str × Str × Bool)) → Int → Int → Option ((List (Str × Str × Bool)) × Int)
  | 0, _, _, _ => none
  | a4 + 1, a3, a0, a1 => (if a0 = a1 then some (a3, a0) else (if a1 < a0 then (gd (ace (a2 - a0)) <| ((abb fu a3 (a2 - a0) a2 a1).bind fun (a5 : List (Str × Str × Bool)) => (gd (ace (a0 - a1)) <| (aba fu a2 a4 a5 (a0 - a1) a1)))) else (gd (ace (a2 - a0)) <| (gd (ace (a2 + a1)) <| (gd (ace ((a2 + a1) - a0)) <| ((abb fu a3 (a2 - a0) ((a2 + a1) - a0) a0).bind fun (a6 : List (Str × Str × Bool)) => (gd (ace (a1 - a0)) <| (aba fu a2 a4 a6 a0 (a1 - a0)))))))))
def adi (fu : Nat) (a4 : List (Str × Str × Bool)) (a2 : Int) (a0 : Int) (a3 : Int) : Option (List (Str × Str × Bool)) :=
  (gd (ace (a0 - a2)) <| (gd (ace (a3 - a0)) <| (((aba fu a0 fu a4 (a0 - a2) (a3 - a0))).bind fun (a1 : ((List (Str × Str × Bool)) × Int)) => (gd (ace (a0 - a1.2)) <| ((abb fu a1.1 (a0 - a1.2) a0 a1.2).bind fun (a5 : List (Str × Str × Bool)) => some a5)))))
def aau (fu : Nat) (a2 : List (Str × Str × Bool)) (a3 : Int) : Nat → Int → Int → Option Int
  | 0, _, _ => none
  | a4 + 1, a0, a1 => (if a0 < a1 then (gd (ace (a0 + a1)) <| (gd (0 ≤ (IntKind.wrap .i64 ((IntKind.wrap .u64 (a0 + a1)) / 2)) ∧ (IntKind.wrap .i64 ((IntKind.wrap .u64 (a0 + a1)) / 2)) < (a2.length : Int)) <| (gd (0 ≤ (IntKind.wrap .i64 ((IntKind.wrap .u64 (a0 + a1)) / 2)) ∧ (IntKind.wrap .i64 ((IntKind.wrap .u64 (a0 + a1)) / 2)) < (a2.length : Int)) <| (gd (0 ≤ a3 ∧ a3 < (a2.length : Int)) <| (gd (0 ≤ a3 ∧ a3 < (a2.length : Int)) <| ((afs fu ((el a2 (IntKind.wrap .i64 ((IntKind.wrap .u64 (a0 + a1)) / 2))).1, (el a2 (IntKind.wrap .i64 ((IntKind.wrap .u64 (a0 + a1)) / 2))).2.1, ((el a2 (IntKind.wrap .i64 ((IntKind.wrap .u64 (a0 + a1)) / 2))).2.2)) ((el a2 a3).1, (el a2 a3).2.1, ((el a2 a3).2.2))).bind fun (a5 : Int) => (if a5 < (0 : Int) then (gd (ace ((IntKind.wrap .i64 ((IntKind.wrap .u64 (a0 + a1)) / 2)) + (1 : Int))) <| (aau fu a2 a3 a4 ((IntKind.wrap .i64 ((IntKind.wrap .u64 (a0 + a1)) / 2)) + (1 : Int)) a1)) else (aau fu a2 a3 a4 a0 (IntKind.wrap .i64 ((IntKind.wrap .u64 (a0 + a1)) / 2)))))))))) else some a0)
def abp (fu : Nat) (a2 : Int) : Nat → (List (Str × Str × Bool)) → Int → Option (List (Str × Str × Bool))
  | 0, _, _ => none
  | a3 + 1, a1, a0 => (gd (ace (a2 - (1 : Int))) <| (if a0 < (a2 - (1 : Int)) then (gd (ace (a0 + (1 : Int))) <| (gd (ace (a0 + (1 : Int))) <| (gd (0 ≤ (a0 + (1 : Int)) ∧ (a0 + (1 : Int)) < (a1.length : Int)) <| (gd (0 ≤ (a0 + (1 : Int)) ∧ (a0 + (1 : Int)) < (a1.length : Int)) <| (gd (0 ≤ a0 ∧ a0 < (a1.length : Int)) <| (gd (0 ≤ a0 ∧ a0 < (a1.length : Int)) <| (gd (0 ≤ a0 ∧ a0 < (a1.length : Int)) <| (gd (0 ≤ a0 ∧ a0 < (a1.length : Int)) <| (gd (0 ≤ (a0 + (1 : Int)) ∧ (a0 + (1 : Int)) < ((List.set a1 (Int.toNat a0) ((el a1 (a0 + (1 : Int))).1, (el a1 (a0 + (1 : Int))).2.1, ((el a1 (a0 + (1 : Int))).2.2))).length : Int)) <| (gd (0 ≤ (a0 + (1 : Int)) ∧ (a0 + (1 : Int)) < ((List.set a1 (Int.toNat a0) ((el a1 (a0 + (1 : Int))).1, (el a1 (a0 + (1 : Int))).2.1, ((el a1 (a0 + (1 : Int))).2.2))).length : Int)) <| (gd (ace (a0 + (1 : Int))) <| (abp fu a2 a3 (List.set (List.set a1 (Int.toNat a0) ((el a1 (a0 + (1 : Int))).1, (el a1 (a0 + (1 : Int))).2.1, ((el a1 (a0 + (1 : Int))).2.2))) (Int.toNat (a0 + (1 : Int))) ((el a1 a0).1, (el a1 a0).2.1, ((el a1 a0).2.2))) (a0 + (1 : Int)))))))))))))) else some a1))
def aat (fu : Nat) (a2 : List (Str × Str × Bool)) (a3 : Int) : Nat → Int → Int → Option Int
  | 0, _, _ => none
  | a4 + 1, a0, a1 => (if a0 < a1 then (gd (ace (a0 + a1)) <| (gd (0 ≤ a3 ∧ a3 < (a2.length : Int)) <| (gd (0 ≤ a3 ∧ a3 < (a2.length : Int)) <| (gd (0 ≤ (IntKind.wrap .i64 ((IntKind.wrap .u64 (a0 + a1)) / 2)) ∧ (IntKind.wrap .i64 ((IntKind.wrap .u64 (a0 + a1)) / 2)) < (a2.length : Int)) <| (gd (0 ≤ (IntKind.wrap .i64 ((IntKind.wrap .u64 (a0 + a1)) / 2)) ∧ (IntKind.wrap .i64 ((IntKind.wrap .u64 (a0 + a1)) / 2)) < (a2.length : Int)) <| ((afs fu ((el a2 a3).1, (el a2 a3).2.1, ((el a2 a3).2.2)) ((el a2 (IntKind.wrap .i64 ((IntKind.wrap .u64 (a0 + a1)) / 2))).1, (el a2 (IntKind.wrap .i64 ((IntKind.wrap .u64 (a0 + a1)) / 2))).2.1, ((el a2 (IntKind.wrap .i64 ((IntKind.wrap .u64 (a0 + a1)) / 2))).2.2))).bind fun (a5 : Int) => (if a5 < (0 : Int) then (aat fu a2 a3 a4 a0 (IntKind.wrap .i64 ((IntKind.wrap .u64 (a0 + a1)) / 2))) else (gd (ace ((IntKind.wrap .i64 ((IntKind.wrap .u64 (a0 + a1)) / 2)) + (1 : Int))) <| (aat fu a2 a3 a4 ((IntKind.wrap .i64 ((IntKind.wrap .u64 (a0 + a1)) / 2)) + (1 : Int)) a1))))))))) else some a0)
def abo (fu : Nat) (a2 : Int) : Nat → (List (Str × Str × Bool)) → Int → Option (List (Str × Str × Bool))
  | 0, _, _ => none
  | a3 + 1, a1, a0 => (if a2 < a0 then (gd (ace (a0 - (1 : Int))) <| (gd (ace (a0 - (1 : Int))) <| (gd (0 ≤ (a0 - (1 : Int)) ∧ (a0 - (1 : Int)) < (a1.length : Int)) <| (gd (0 ≤ (a0 - (1 : Int)) ∧ (a0 - (1 : Int)) < (a1.length : Int)) <| (gd (0 ≤ a0 ∧ a0 < (a1.length : Int)) <| (gd (0 ≤ a0 ∧ a0 < (a1.length : Int)) <| (gd (0 ≤ a0 ∧ a0 < (a1.length : Int)) <| (gd (0 ≤ a0 ∧ a0 < (a1.length : Int)) <| (gd (0 ≤ (a0 - (1 : Int)) ∧ (a0 - (1 : Int)) < ((List.set a1 (Int.toNat a0) ((el a1 (a0 - (1 : Int))).1, (el a1 (a0 - (1 : Int))).2.1, ((el a1 (a0 - (1 : Int))).2.2))).length : Int)) <| (gd (0 ≤ (a0 - (1 : Int)) ∧ (a0 - (1 : Int)) < ((List.set a1 (Int.toNat a0) ((el a1 (a0 - (1 : Int))).1, (el a1 (a0 - (1 : Int))).2.1, ((el a1 (a0 - (1 : Int))).2.2))).length : Int)) <| (gd (ace (a0 - (1 : Int))) <| (abo fu a2 a3 (List.set (List.set a1 (Int.toNat a0) ((el a1 (a0 - (1 : Int))).1, (el a1 (a0 - (1 : Int))).2.1, ((el a1 (a0 - (1 : Int))).2.2))) (Int.toNat (a0 - (1 : Int))) ((el a1 a0).1, (el a1 a0).2.1, ((el a1 a0).2.2))) (a0 - (1 : Int)))))))))))))) else some a1)
def aas (fu : Nat) (a2 : List (Str × Str × Bool)) (a3 : Int) (a4 : Int) (a5 : Int) : Nat → Int → Int → Option Int
  | 0, _, _ => none
  | a6 + 1, a0, a1 => (if a0 < a1 then (gd (ace (a0 + a1)) <| (gd (ace ((((IntKind.wrap .i64 ((IntKind.wrap .u64 (a3 + a5)) / 2)) + a4) - (1 : Int)) - (IntKind.wrap .i64 ((IntKind.wrap .u64 (a0 + a1)) / 2)))) <| (gd (0 ≤ ((((IntKind.wrap .i64 ((IntKind.wrap .u64 (a3 + a5)) / 2)) + a4) - (1 : Int)) - (IntKind.wrap .i64 ((IntKind.wrap .u64 (a0 + a1)) / 2))) ∧ ((((IntKind.wrap .i64 ((IntKind.wrap .u64 (a3 + a5)) / 2)) + a4) - (1 : Int)) - (IntKind.wrap .i64 ((IntKind.wrap .u64 (a0 + a1)) / 2))) < (a2.length : Int)) <| (gd (0 ≤ ((((IntKind.wrap .i64 ((IntKind.wrap .u64 (a3 + a5)) / 2)) + a4) - (1 : Int)) - (IntKind.wrap .i64 ((IntKind.wrap .u64 (a0 + a1)) / 2))) ∧ ((((IntKind.wrap .i64 ((IntKind.wrap .u64 (a3 + a5)) / 2)) + a4) - (1 : Int)) - (IntKind.wrap .i64 ((IntKind.wrap .u64 (a0 + a1)) / 2))) < (a2.length : Int)) <| (gd (0 ≤ (IntKind.wrap .i64 ((IntKind.wrap .u64 (a0 + a1)) / 2)) ∧ (IntKind.wrap .i64 ((IntKind.wrap .u64 (a0 + a1)) / 2)) < (a2.length : Int)) <| (gd (0 ≤ (IntKind.wrap .i64 ((IntKind.wrap .u64 (a0 + a1)) / 2)) ∧ (IntKind.wrap .i64 ((IntKind.wrap .u64 (a0 + a1)) / 2)) < (a2.length : Int)) <| ((afs fu ((el a2 ((((IntKind.wrap .i64 ((IntKind.wrap .u64 (a3 + a5)) / 2)) + a4) - (1 : Int)) - (IntKind.wrap .i64 ((IntKind.wrap .u64 (a0 + a1)) / 2)))).1, (el a2 ((((IntKind.wrap .i64 ((IntKind.wrap .u64 (a3 + a5)) / 2)) + a4) - (1 : Int)) - (IntKind.wrap .i64 ((IntKind.wrap .u64 (a0 + a1)) / 2)))).2.1, ((el a2 ((((IntKind.wrap .i64 ((IntKind.wrap .u64 (a3 + a5)) / 2)) + a4) - (1 : Int)) - (IntKind.wrap .i64 ((IntKind.wrap .u64 (a0 + a1)) / 2)))).2.2)) ((el a2 (IntKind.wrap .i64 ((IntKind.wrap .u64 (a0 + a1)) / 2))).1, (el a2 (IntKind.wrap .i64 ((IntKind.wrap .u64 (a0 + a1)) / 2))).2.1, ((el a2 (IntKind.wrap .i64 ((IntKind.wrap .u64 (a0 + a1)) / 2))).2.2))).bind fun (a7 : Int) => (if a7 < (0 : Int) then (aas fu a2 a3 a4 a5 a6 a0 (IntKind.wrap .i64 ((IntKind.wrap .u64 (a0 + a1)) / 2))) else (gd (ace ((IntKind.wrap .i64 ((IntKind.wrap .u64 (a0 + a1)) / 2)) + (1 : Int))) <| (aas fu a2 a3 a4 a5 a6 ((IntKind.wrap .i64 ((IntKind.wrap .u64 (a0 + a1)) / 2)) + (1 : Int)) a1)))))))))) else some a0)
def aan : Nat → (List (Str × Str × Bool)) → Int → Int → Int → Option (List (Str × Str × Bool))
  | 0, _, _, _, _ => none
  | fu + 1, a4, a0, a2, a1 => (((gd (ace (a2 - a0)) <| (if (a2 - a0) = (1 : Int) then (((aau fu a4 a0 fu a2 a1)).bind fun (a8 : Int) => (((abp fu a8 fu a4 a0)).bind fun (a9 : List (Str × Str × Bool)) => some (.inr a9))) else some (.inl ())))).bind fun (b0 : (Unit ⊕ (List (Str × Str × Bool)))) => Sum.elim (fun (c0 : Unit) => (((gd (ace (a1 - a2)) <| (if (a1 - a2) = (1 : Int) then (((aat fu a4 a2 fu a0 a2)).bind fun (b1 : Int) => (((abo fu b1 fu a4 a2)).bind fun (b2 : List (Str × Str × Bool)) => some (.inr b2))) else some (.inl ())))).bind fun (b3 : (Unit ⊕ (List (Str × Str × Bool)))) => Sum.elim (fun (c1 : Unit) => (gd (ace (a0 + a1)) <| (gd (ace ((IntKind.wrap .i64 ((IntKind.wrap .u64 (a0 + a1)) / 2)) + a2)) <| (((if (IntKind.wrap .i64 ((IntKind.wrap .u64 (a0 + a1)) / 2)) < a2 then (gd (ace (((IntKind.wrap .i64 ((IntKind.wrap .u64 (a0 + a1)) / 2)) + a2) - a1)) <| some (((IntKind.wrap .i64 ((IntKind.wrap .u64 (a0 + a1)) / 2)) + a2) - a1, IntKind.wrap .i64 ((IntKind.wrap .u64 (a0 + a1)) / 2))) else some (a0, a2))).bind fun (a5 : (Int × Int)) => (gd (ace (((IntKind.wrap .i64 ((IntKind.wrap .u64 (a0 + a1)) / 2)) + a2) - (1 : Int))) <| (((aas fu a4 a0 a2 a1 fu a5.1 a5.2)).bind fun (a3 : Int) => (gd (ace (((IntKind.wrap .i64 ((IntKind.wrap .u64 (a0 + a1)) / 2)) + a2) - a3)) <| (((((if a3 < a2 then some (decide (a2 < (((IntKind.wrap .i64 ((IntKind.wrap .u64 (a0 + a1)) / 2)) + a2) - a3))) else some false)).bind fun (b4 : Bool) => (bif b4 then ((adi fu a4 a3 a2 (((IntKind.wrap .i64 ((IntKind.wrap .u64 (a0 + a1)) / 2)) + a2) - a3)).bind fun (b5 : List (Str × Str × Bool)) => some b5) else some a4))).bind fun (a6 : List (Str × Str × Bool)) => (((((if a0 < a3 then some (decide (a3 < (IntKind.wrap .i64 ((IntKind.wrap .u64 (a0 + a1)) / 2)))) else some false)).bind fun (b6 : Bool) => (bif b6 then ((aan fu a6 a0 a3 (IntKind.wrap .i64 ((IntKind.wrap .u64 (a0 + a1)) / 2))).bind fun (b7 : List (Str × Str × Bool)) => some b7) else some a6))).bind fun (a7 : List (Str × Str × Bool)) => (((if (IntKind.wrap .i64 ((IntKind.wrap .u64 (a0 + a1)) / 2)) < (((IntKind.wrap .i64 ((IntKind.wrap .u64 (a0 + a1)) / 2)) + a2) - a3) then some (decide ((((IntKind.wrap .i64 ((IntKind.wrap .u64 (a0 + a1)) / 2)) + a2) - a3) < a1)) else some false)).bind fun (b8 : Bool) => (bif b8 then ((aan fu a7 (IntKind.wrap .i64 ((IntKind.wrap .u64 (a0 + a1)) / 2)) (((IntKind.wrap .i64 ((IntKind.wrap .u64 (a0 + a1)) / 2)) + a2) - a3) a1).bind fun (b9 : List (Str × Str × Bool)) => some b9) else some a7))))))))))) (fun q => some q) b3)) (fun q => some q) b0)
end Go.Wk
set_option linter.unusedVariables false
set_option linter.unusedSimpArgs false
set_option maxRecDepth 20000
set_option maxHeartbeats 1000000
namespace Go.Wk
open Go.Px
def abx (fu : Nat) (a1 : Int) : Nat → (List (Str × Str × Bool)) → Int → Int → Option ((List (Str × Str × Bool)) × Int)
  | 0, _, _, _ => none
  | a4 + 1, a2, a3, a0 => (if a0 ≤ a1 then ((abm fu a2 a3 a0).bind fun (a5 : List (Str × Str × Bool)) => (gd (ace (a0 + (20 : Int))) <| (abx fu a1 a4 a5 a0 (a0 + (20 : Int))))) else some (a2, a3))
def abw (fu : Nat) (a3 : Int) (a0 : Int) : Nat → (List (Str × Str × Bool)) → Int → Int → Option ((List (Str × Str × Bool)) × Int)
  | 0, _, _, _ => none
  | a5 + 1, a4, a2, a1 => (if a1 ≤ a3 then (gd (ace (a2 + a0)) <| ((aan fu a4 a2 (a2 + a0) a1).bind fun (a6 : List (Str × Str × Bool)) => (gd (ace ((2 : Int) * a0)) <| (gd (ace (a1 + ((2 : Int) * a0))) <| (abw fu a3 a0 a5 a6 a1 (a1 + ((2 : Int) * a0))))))) else some (a4, a2))
def aaz (fu : Nat) (a1 : Int) : Nat → (List (Str × Str × Bool)) → Int → Option (List (Str × Str × Bool))
  | 0, _, _ => none
  | a3 + 1, a4, a0 => (if a0 < a1 then (gd (ace ((2 : Int) * a0)) <| (((abw fu a1 a0 fu a4 (0 : Int) ((2 : Int) * a0))).bind fun (a2 : ((List (Str × Str × Bool)) × Int)) => (gd (ace (a2.2 + a0)) <| (if (a2.2 + a0) < a1 then ((aan fu a2.1 a2.2 (a2.2 + a0) a1).bind fun (a5 : List (Str × Str × Bool)) => (gd (ace (a0 * (2 : Int))) <| (aaz fu a1 a3 a5 (a0 * (2 : Int))))) else (gd (ace (a0 * (2 : Int))) <| (aaz fu a1 a3 a2.1 (a0 * (2 : Int)))))))) else some a4)
def adh (fu : Nat) (a2 : List (Str × Str × Bool)) (a0 : Int) : Option (List (Str × Str × Bool)) :=
  (((abx fu a0 fu a2 (0 : Int) (20 : Int))).bind fun (a1 : ((List (Str × Str × Bool)) × Int)) => ((abm fu a1.1 a1.2 a0).bind fun (a3 : List (Str × Str × Bool)) => (aaz fu a0 fu a3 (20 : Int))))
def adg (fu : Nat) (a0 : List (Str × Str × Bool)) : Option (List (Str × Str × Bool)) :=
  ((adh fu a0 (a0.length : Int)).bind fun (y1 : List (Str × Str × Bool)) => some y1)
def agt (fu : Nat) (a0 : List (Str × Str × Bool)) : Option (List (Str × Str × Bool)) :=
  (gd ((0 + a0.length) * 40 ≤ 140737488355328) <| ((adg fu a0).bind fun (y8 : List (Str × Str × Bool)) => some y8))
def aif (fu : Nat) (a3 : (Int × UInt8 × Str × Str × Int × Str × Str × Str × Int × (List (Str × Str × Bool)) × (List (Str × Str × Bool)))) : Nat → Int → UInt8 → Str → Int → (List (Str × Str × Bool)) → Option (Int × UInt8 × Str × Int × (List (Str × Str × Bool)))
  | 0, _, _, _, _, _ => none
  | a6 + 1, a7, a4, a2, a0, a5 => (((if a4 = (0 : UInt8) then ((aap fu (a2, a0) (59 : UInt8)).bind fun (a8 : Bool) => some a8) else some false)).bind fun (a9 : Bool) => (bif a9 then (gd (ace (a0 + (1 : Int))) <| ((acd fu a2 (a0 + (1 : Int)) a3.2.2.1).bind fun (b0 : Int) => ((agr fu (a2, a0 + (1 : Int)) a5 b0 (1 : Int)).bind fun (a1 : ((List (Str × Str × Bool)) × Int × UInt8 × (Str × Int))) => (aif fu a3 a6 a1.2.1 a1.2.2.1 a1.2.2.2.1 a1.2.2.2.2 a1.1)))) else some (a7, a4, a2, a0, a5)))
def aie (fu : Nat) : Nat → Int → UInt8 → Str → Int → (List (Str × Str × Bool)) → Option (Int × UInt8 × (List (Str × Str × Bool)))
  | 0, _, _, _, _, _ => none
  | a5 + 1, a6, a3, a2, a1, a4 => (((if a3 = (0 : UInt8) then ((aek fu (a2, a1)).bind fun (a7 : Bool) => some (!a7)) else some false)).bind fun (a8 : Bool) => (bif a8 then (gd (ace (a1 + (1 : Int))) <| ((acd fu a2 (a1 + (1 : Int)) ([38] : Str)).bind fun (a9 : Int) => ((agr fu (a2, a1 + (1 : Int)) a4 a9 (2 : Int)).bind fun (a0 : ((List (Str × Str × Bool)) × Int × UInt8 × (Str × Int))) => (aie fu a5 a0.2.1 a0.2.2.1 a0.2.2.2.1 a0.2.2.2.2 a0.1)))) else some (a6, a3, a4)))
def ami (fu : Nat) (s_0 : Str) : Option ((Str × Str × Str × Int × (List (Str × Str × Bool)) × (List (Str × Str × Bool))) × Int × UInt8) :=
  (if (1024 : Int) < (s_0.length : Int) then some ((([] : Str), ([] : Str), ([] : Str), (0 : Int), ([] : List (Str × Str × Bool)), ([] : List (Str × Str × Bool))), (1024 : Int), (4 : UInt8)) else (if (ixb (· == (58 : UInt8)) s_0) < (0 : Int) then some ((([] : Str), ([] : Str), ([] : Str), (0 : Int), ([] : List (Str × Str × Bool)), ([] : List (Str × Str × Bool))), (s_0.length : Int), (5 : UInt8)) else (gd (ace ((ixb (· == (58 : UInt8)) s_0) + (1 : Int))) <| (gd (0 ≤ (ixb (· == (58 : UInt8)) s_0) ∧ (ixb (· == (58 : UInt8)) s_0) ≤ (s_0.length : Int)) <| ((adt fu (List.take (Int.toNat (ixb (· == (58 : UInt8)) s_0)) s_0)).bind fun (a3 : Str) => (((((if a3 = ([115, 105, 112] : Str) then some (decide (a3 = ([115, 105, 112] : Str))) else some (decide (a3 = ([115, 105, 112, 115] : Str))))).bind fun (a6 : Bool) => (bif a6 then ((ail fu (s_0, (ixb (· == (58 : UInt8)) s_0) + (1 : Int)) (a3, ([] : Str), ([] : Str), (0 : Int), ([] : List (Str × Str × Bool)), ([] : List (Str × Str × Bool)))).bind fun (a1 : (Int × UInt8 × (Str × Int) × (Str × Str × Str × Int × (List (Str × Str × Bool)) × (List (Str × Str × Bool))))) => some (a1.1, a1.2.1, ([59, 63] : Str), a1.2.2.1.1, a1.2.2.1.2, a1.2.2.2.1, a1.2.2.2.2.1, a1.2.2.2.2.2.1, a1.2.2.2.2.2.2.1, a1.2.2.2.2.2.2.2.1, a1.2.2.2.2.2.2.2.2)) else (if a3 = ([116, 101, 108] : Str) then ((aia fu (s_0, (ixb (· == (58 : UInt8)) s_0) + (1 : Int)) (a3, ([] : Str), ([] : Str), (0 : Int), ([] : List (Str × Str × Bool)), ([] : List (Str × Str × Bool)))).bind fun (a2 : (Int × UInt8 × (Str × Int) × (Str × Str × Str × Int × (List (Str × Str × Bool)) × (List (Str × Str × Bool))))) => some (a2.1, a2.2.1, ([59] : Str), a2.2.2.1.1, a2.2.2.1.2, a2.2.2.2.1, a2.2.2.2.2.1, a2.2.2.2.2.2.1, a2.2.2.2.2.2.2.1, a2.2.2.2.2.2.2.2.1, a2.2.2.2.2.2.2.2.2)) else some ((0 : Int), (15 : UInt8), ([59, 63] : Str), s_0, (ixb (· == (58 : UInt8)) s_0) + (1 : Int), a3, ([] : Str), ([] : Str), (0 : Int), ([] : List (Str × Str × Bool)), ([] : List (Str × Str × Bool))))))).bind fun (a0 : (Int × UInt8 × Str × Str × Int × Str × Str × Str × Int × (List (Str × Str × Bool)) × (List (Str × Str × Bool)))) => (((aif fu a0 fu a0.1 a0.2.1 a0.2.2.2.1 a0.2.2.2.2.1 a0.2.2.2.2.2.2.2.2.2.1)).bind fun (a4 : (Int × UInt8 × Str × Int × (List (Str × Str × Bool)))) => (((aie fu fu a4.1 a4.2.1 a4.2.2.1 a4.2.2.2.1 a0.2.2.2.2.2.2.2.2.2.2)).bind fun (a5 : (Int × UInt8 × (List (Str × Str × Bool)))) => (if a5.2.1 = (0 : UInt8) then ((agt fu a4.2.2.2.2).bind fun (a7 : List (Str × Str × Bool)) => ((agt fu a5.2.2).bind fun (a8 : List (Str × Str × Bool)) => some ((a0.2.2.2.2.2.1, a0.2.2.2.2.2.2.1, a0.2.2.2.2.2.2.2.1, a0.2.2.2.2.2.2.2.2.1, a7, a8), (0 : Int), (0 : UInt8)))) else some ((([] : Str), ([] : Str), ([] : Str), (0 : Int), ([] : List (Str × Str × Bool)), ([] : List (Str × Str × Bool))), a5.1, a5.2.1))))))))))
def ahz (fu : Nat) (a0 : (Str × Int)) (a2 : (Str × (Str × Str × Str × Int × (List (Str × Str × Bool)) × (List (Str × Str × Bool))) × (List (Str × Str × Bool)))) : Option (Int × UInt8 × (Str × Int) × (Str × (Str × Str × Str × Int × (List (Str × Str × Bool)) × (List (Str × Str × Bool))) × (List (Str × Str × Bool)))) :=
  ((((aap fu a0 (60 : UInt8)).bind fun (a7 : Bool) => (bif a7 then (gd (ace (a0.2 + (1 : Int))) <| ((acd fu a0.1 (a0.2 + (1 : Int)) ([62] : Str)).bind fun (a3 : Int) => (if a3 = (a0.1.length : Int) then some (.inr (a3, (5 : UInt8), a0, a2)) else (gd (ace (a3 + (1 : Int))) <| some (.inl (a0.2 + (1 : Int), a3, a3 + (1 : Int))))))) else ((acd fu a0.1 a0.2 ([59, 32, 9] : Str)).bind fun (a5 : Int) => ((acd fu a0.1 a0.2 ([63, 44] : Str)).bind fun (a6 : Int) => (if a6 < a5 then some (.inr (a6, (5 : UInt8), a0, a2)) else some (.inl (a0.2, a5, a5)))))))).bind fun (a8 : ((Int × Int × Int) ⊕ (Int × UInt8 × (Str × Int) × (Str × (Str × Str × Str × Int × (List (Str × Str × Bool)) × (List (Str × Str × Bool))) × (List (Str × Str × Bool)))))) => Sum.elim (fun (a1 : (Int × Int × Int)) => (gd (0 ≤ a1.1 ∧ a1.1 ≤ a1.2.1 ∧ a1.2.1 ≤ (a0.1.length : Int)) <| ((ami fu (sub a0.1 a1.1 a1.2.1)).bind fun (a4 : ((Str × Str × Str × Int × (List (Str × Str × Bool)) × (List (Str × Str × Bool))) × Int × UInt8)) => (if a4.2.2 = (0 : UInt8) then some ((0 : Int), (0 : UInt8), (a0.1, a1.2.2), (a2.1, a4.1, a2.2.2)) else (gd (ace (a1.1 + a4.2.1)) <| some (a1.1 + a4.2.1, a4.2.2, a0, a2)))))) (fun q => some q) a8)
def aib (fu : Nat) (a7 : (Str × Int)) : Option ((Str × Str × Bool) × Int × UInt8 × (Str × Int)) :=
  ((afi fu a7).bind fun (y4 : (Str × (Str × Int))) => ((adt fu y4.1).bind fun (a2 : Str) => (if a2 = ([] : Str) then some ((([] : Str), ([] : Str), false), y4.2.2, (5 : UInt8), y4.2) else ((acr fu y4.2).bind fun (a3 : (Str × Int)) => ((aap fu a3 (61 : UInt8)).bind fun (a8 : Bool) => (bif (!a8) then some ((a2, ([] : Str), false), (0 : Int), (0 : UInt8), a3) else (gd (ace (a3.2 + (1 : Int))) <| ((acr fu (a3.1, a3.2 + (1 : Int))).bind fun (a0 : (Str × Int)) => ((aap fu a0 (34 : UInt8)).bind fun (a9 : Bool) => (bif a9 then ((aiy fu a0.1 a0.2).bind fun (a4 : (Str × Int × UInt8)) => (if a4.2.2 = (0 : UInt8) then some ((a2, a4.1, true), (0 : Int), (0 : UInt8), (a0.1, a4.2.1)) else some ((([] : Str), ([] : Str), false), a4.2.1, a4.2.2, a0))) else ((aap fu a0 (91 : UInt8)).bind fun (b0 : Bool) => (bif b0 then ((acd fu a0.1 a0.2 ([93] : Str)).bind fun (a1 : Int) => (gd (ace (a1 + (1 : Int))) <| (gd (0 ≤ a0.2 ∧ a0.2 ≤ (min (a1 + (1 : Int)) (a0.1.length : Int)) ∧ (min (a1 + (1 : Int)) (a0.1.length : Int)) ≤ (a0.1.length : Int)) <| ((age fu (sub a0.1 a0.2 (min (a1 + (1 : Int)) (a0.1.length : Int)))).bind fun (a6 : (Str × Bool)) => (bif (!a6.2) then some ((([] : Str), ([] : Str), false), a0.2, (5 : UInt8), a0) else (gd (ace (a1 + (1 : Int))) <| some ((a2, a6.1, true), (0 : Int), (0 : UInt8), (a0.1, a1 + (1 : Int))))))))) else ((afi fu a0).bind fun (a5 : (Str × (Str × Int))) => (if a5.1 = ([] : Str) then some ((([] : Str), ([] : Str), false), a5.2.2, (5 : UInt8), a5.2) else some ((a2, a5.1, true), (0 : Int), (0 : UInt8), a5.2)))))))))))))))
def ahk (fu : Nat) : Nat → (List (Str × Str × Bool)) → Str → Int → Option ((List (Str × Str × Bool)) × Int × UInt8)
  | 0, _, _, _ => none
  | a5 + 1, a2, a6, a7 => ((acr fu (a6, a7)).bind fun (a1 : (Str × Int)) => ((aek fu a1).bind fun (a8 : Bool) => (bif a8 then some (a2, (0 : Int), (0 : UInt8)) else ((aap fu a1 (59 : UInt8)).bind fun (a9 : Bool) => (bif (!a9) then some (([] : List (Str × Str × Bool)), a1.2, (5 : UInt8)) else (gd (ace (a1.2 + (1 : Int))) <| ((acr fu (a1.1, a1.2 + (1 : Int))).bind fun (a4 : (Str × Int)) => ((aib fu a4).bind fun (a0 : ((Str × Str × Bool) × Int × UInt8 × (Str × Int))) => (((if a0.2.2.1 = (0 : UInt8) then ((ali fu a2 a0.1.1).bind fun (b0 : UInt8) => some (a4.2, b0)) else some (a0.2.1, a0.2.2.1))).bind fun (a3 : (Int × UInt8)) => (if a3.2 = (0 : UInt8) then (gd ((a2.length + ([a0.1] : List (Str × Str × Bool)).length) * 40 ≤ 140737488355328) <| (ahk fu a5 (a2 ++ ([a0.1] : List (Str × Str × Bool))) a0.2.2.2.1 a0.2.2.2.2)) else some (([] : List (Str × Str × Bool)), a3.1, a3.2)))))))))))
def aii (fu : Nat) (s_0 : Str) : Option ((List (Str × Str × Bool)) × Int × UInt8) :=
  (ahk fu fu ([] : List (Str × Str × Bool)) s_0 (0 : Int))
def ain (fu : Nat) (s_0 : Str) : Option ((Str × (Str × Str × Str × Int × (List (Str × Str × Bool)) × (List (Str × Str × Bool))) × (List (Str × Str × Bool))) × Int × UInt8) :=
  (if (1024 : Int) < (s_0.length : Int) then some ((([] : Str), (([] : Str), ([] : Str), ([] : Str), (0 : Int), ([] : List (Str × Str × Bool)), ([] : List (Str × Str × Bool))), ([] : List (Str × Str × Bool))), (1024 : Int), (4 : UInt8)) else ((acr fu (s_0, (0 : Int))).bind fun (a5 : (Str × Int)) => ((((aap fu a5 (34 : UInt8)).bind fun (a8 : Bool) => (bif a8 then ((ago fu a5 (([] : Str), (([] : Str), ([] : Str), ([] : Str), (0 : Int), ([] : List (Str × Str × Bool)), ([] : List (Str × Str × Bool))), ([] : List (Str × Str × Bool)))).bind fun (a2 : (Int × UInt8 × (Str × Int) × (Str × (Str × Str × Str × Int × (List (Str × Str × Bool)) × (List (Str × Str × Bool))) × (List (Str × Str × Bool))))) => some (a2.1, a2.2.1, a2.2.2.1.1, a2.2.2.1.2, a2.2.2.2.1, a2.2.2.2.2.1.1, a2.2.2.2.2.1.2.1, a2.2.2.2.2.1.2.2.1, a2.2.2.2.2.1.2.2.2.1, a2.2.2.2.2.1.2.2.2.2.1, a2.2.2.2.2.1.2.2.2.2.2, a2.2.2.2.2.2)) else (gd (s_0.length ≤ 1000000000) <| (bif (Lib.contains s_0 ([60] : Str)) then ((ags fu a5 (([] : Str), (([] : Str), ([] : Str), ([] : Str), (0 : Int), ([] : List (Str × Str × Bool)), ([] : List (Str × Str × Bool))), ([] : List (Str × Str × Bool)))).bind fun (a3 : (Int × UInt8 × (Str × Int) × (Str × (Str × Str × Str × Int × (List (Str × Str × Bool)) × (List (Str × Str × Bool))) × (List (Str × Str × Bool))))) => some (a3.1, a3.2.1, a3.2.2.1.1, a3.2.2.1.2, a3.2.2.2.1, a3.2.2.2.2.1.1, a3.2.2.2.2.1.2.1, a3.2.2.2.2.1.2.2.1, a3.2.2.2.2.1.2.2.2.1, a3.2.2.2.2.1.2.2.2.2.1, a3.2.2.2.2.1.2.2.2.2.2, a3.2.2.2.2.2)) else some ((0 : Int), (0 : UInt8), a5.1, a5.2, ([] : Str), ([] : Str), ([] : Str), ([] : Str), (0 : Int), ([] : List (Str × Str × Bool)), ([] : List (Str × Str × Bool)), ([] : List (Str × Str × Bool)))))))).bind fun (a0 : (Int × UInt8 × Str × Int × Str × Str × Str × Str × Int × (List (Str × Str × Bool)) × (List (Str × Str × Bool)) × (List (Str × Str × Bool)))) => (((if a0.2.1 = (0 : UInt8) then ((ahz fu (a0.2.2.1, a0.2.2.2.1) (a0.2.2.2.2.1, (a0.2.2.2.2.2.1, a0.2.2.2.2.2.2.1, a0.2.2.2.2.2.2.2.1, a0.2.2.2.2.2.2.2.2.1, a0.2.2.2.2.2.2.2.2.2.1, a0.2.2.2.2.2.2.2.2.2.2.1), a0.2.2.2.2.2.2.2.2.2.2.2)).bind fun (a4 : (Int × UInt8 × (Str × Int) × (Str × (Str × Str × Str × Int × (List (Str × Str × Bool)) × (List (Str × Str × Bool))) × (List (Str × Str × Bool))))) => some (a4.1, a4.2.1, a4.2.2.1.1, a4.2.2.1.2, a4.2.2.2.1, a4.2.2.2.2.1.1, a4.2.2.2.2.1.2.1, a4.2.2.2.2.1.2.2.1, a4.2.2.2.2.1.2.2.2.1, a4.2.2.2.2.1.2.2.2.2.1, a4.2.2.2.2.1.2.2.2.2.2, a4.2.2.2.2.2)) else some (a0.1, a0.2.1, a0.2.2.1, a0.2.2.2.1, a0.2.2.2.2.1, a0.2.2.2.2.2.1, a0.2.2.2.2.2.2.1, a0.2.2.2.2.2.2.2.1, a0.2.2.2.2.2.2.2.2.1, a0.2.2.2.2.2.2.2.2.2.1, a0.2.2.2.2.2.2.2.2.2.2.1, a0.2.2.2.2.2.2.2.2.2.2.2))).bind fun (a1 : (Int × UInt8 × Str × Int × Str × Str × Str × Str × Int × (List (Str × Str × Bool)) × (List (Str × Str × Bool)) × (List (Str × Str × Bool)))) => (((if a1.2.1 = (0 : UInt8) then (gd (0 ≤ a1.2.2.2.1 ∧ a1.2.2.2.1 ≤ (s_0.length : Int)) <| ((aii fu (List.drop (Int.toNat a1.2.2.2.1) s_0)).bind fun (a6 : ((List (Str × Str × Bool)) × Int × UInt8)) => (gd (ace (a6.2.1 + a1.2.2.2.1)) <| some (a6.2.1 + a1.2.2.2.1, a6.2.2, a6.1)))) else some (a1.1, a1.2.1, a1.2.2.2.2.2.2.2.2.2.2.2))).bind fun (a7 : (Int × UInt8 × (List (Str × Str × Bool)))) => (if a7.2.1 = (0 : UInt8) then some ((a1.2.2.2.2.1, (a1.2.2.2.2.2.1, a1.2.2.2.2.2.2.1, a1.2.2.2.2.2.2.2.1, a1.2.2.2.2.2.2.2.2.1, a1.2.2.2.2.2.2.2.2.2.1, a1.2.2.2.2.2.2.2.2.2.2.1), a7.2.2), (0 : Int), (0 : UInt8)) else some ((([] : Str), (([] : Str), ([] : Str), ([] : Str), (0 : Int), ([] : List (Str × Str × Bool)), ([] : List (Str × Str × Bool))), ([] : List (Str × Str × Bool))), a7.1, a7.2.1)))))))
end Go.Wk
set_option linter.unusedVariables false
set_option linter.unusedSimpArgs false
set_option maxRecDepth 20000
set_option maxHeartbeats 1000000
namespace Go.Wk
open Go.Px
def aln (fu : Nat) (a0 : Str) : Option ((Str × (Str × Str × Str × Int × (List (Str × Str × Bool)) × (List (Str × Str × Bool))) × (List (Str × Str × Bool))) × UInt8) :=
  ((aeq fu a0).bind fun (y4 : Str) => ((ain fu y4).bind fun (y9 : ((Str × (Str × Str × Str × Int × (List (Str × Str × Bool)) × (List (Str × Str × Bool))) × (List (Str × Str × Bool))) × Int × UInt8)) => some (y9.1, y9.2.2)))
def aje (fu : Nat) (s_0 : Str) : Nat → (List UInt8) → Int → Option ((List UInt8) ⊕ (Str × UInt8))
  | 0, _, _ => none
  | a3 + 1, a1, a0 => (if a0 < (s_0.length : Int) then (gd (0 ≤ a0 ∧ a0 < (s_0.length : Int)) <| ((ahg fu (at_ s_0 a0)).bind fun (a4 : Bool) => (bif a4 then some (.inr (([] : Str), (5 : UInt8))) else (((((if (at_ s_0 a0) = (34 : UInt8) then some true else some (decide ((at_ s_0 a0) = (92 : UInt8))))).bind fun (a5 : Bool) => (bif a5 then (gd ((a1.length + ([(92 : UInt8)] : List UInt8).length) * 1 ≤ 140737488355328) <| some (a1 ++ ([(92 : UInt8)] : List UInt8))) else some a1))).bind fun (a2 : List UInt8) => (gd (0 ≤ a0 ∧ a0 < (s_0.length : Int)) <| (gd ((a2.length + ([at_ s_0 a0] : List UInt8).length) * 1 ≤ 140737488355328) <| (gd (ace (a0 + (1 : Int))) <| (aje fu s_0 a3 (a2 ++ ([at_ s_0 a0] : List UInt8)) (a0 + (1 : Int)))))))))) else some (.inl a1))
def akl (fu : Nat) (s_0 : Str) : Option (Str × UInt8) :=
  (gd (ace ((s_0.length : Int) + (2 : Int))) <| (gd (0 ≤ ((s_0.length : Int) + (2 : Int)) ∧ (1 : Int) * ((s_0.length : Int) + (2 : Int)) ≤ 281474976710656) <| (gd ((([] : List UInt8).length + ([(34 : UInt8)] : List UInt8).length) * 1 ≤ 140737488355328) <| (((aje fu s_0 fu (([] : List UInt8) ++ ([(34 : UInt8)] : List UInt8)) (0 : Int))).bind fun (a1 : ((List UInt8) ⊕ (Str × UInt8))) => Sum.elim (fun (a0 : List UInt8) => (gd ((a0.length + ([(34 : UInt8)] : List UInt8).length) * 1 ≤ 140737488355328) <| some (a0 ++ ([(34 : UInt8)] : List UInt8), (0 : UInt8)))) (fun q => some q) a1))))
def aic (fu : Nat) (s_0 : Str) : Nat → Int → Option (Unit ⊕ Bool)
  | 0, _ => none
  | a1 + 1, a0 => (if a0 < (s_0.length : Int) then (gd (0 ≤ a0 ∧ a0 < (s_0.length : Int)) <| ((ajj fu (at_ s_0 a0)).bind fun (a2 : Bool) => (bif a2 then some (.inr false) else (gd (ace (a0 + (1 : Int))) <| (aic fu s_0 a1 (a0 + (1 : Int))))))) else some (.inl ()))
def aja (fu : Nat) (s_0 : Str) : Option Bool :=
  (((aic fu s_0 fu (0 : Int))).bind fun (a0 : (Unit ⊕ Bool)) => Sum.elim (fun (a1 : Unit) => some true) (fun q => some q) a0)
def ahj (fu : Nat) (s_0 : Str) : Nat → Int → Option (Unit ⊕ Bool)
  | 0, _ => none
  | a1 + 1, a0 => (if a0 < ((Lib.trimPrefix s_0 ([43] : Str)).length : Int) then (gd (0 ≤ a0 ∧ a0 < ((Lib.trimPrefix s_0 ([43] : Str)).length : Int)) <| ((((afo fu (at_ (Lib.trimPrefix s_0 ([43] : Str)) a0)).bind fun (a2 : Bool) => (bif (!a2) then (bif (Lib.hasPrefix s_0 ([43] : Str)) then some true else (if (at_ (Lib.trimPrefix s_0 ([43] : Str)) a0) = (42 : UInt8) then some false else some (!decide ((at_ (Lib.trimPrefix s_0 ([43] : Str)) a0) = (35 : UInt8))))) else some false))).bind fun (a3 : Bool) => (bif a3 then some (.inr false) else (gd (ace (a0 + (1 : Int))) <| (ahj fu s_0 a1 (a0 + (1 : Int))))))) else some (.inl ()))
def alp (fu : Nat) (s_0 : Str) : Option Bool :=
  (((if (Lib.trimPrefix s_0 ([43] : Str)) = ([] : Str) then some true else some (decide ((30 : Int) < ((Lib.trimPrefix s_0 ([43] : Str)).length : Int))))).bind fun (v8 : Bool) => (bif v8 then some false else (((ahj fu s_0 fu (0 : Int))).bind fun (a0 : (Unit ⊕ Bool)) => Sum.elim (fun (a1 : Unit) => some true) (fun q => some q) a0)))
def ahi (fu : Nat) (a1 : List (Str × Str × Bool)) (a3 : Int) : Nat → (List (Str × Str × Bool)) → Int → Option ((List (Str × Str × Bool)) ⊕ ((List (Str × Str × Bool)) × Bool))
  | 0, _, _ => none
  | a5 + 1, a4, a0 => (if a0 < (a1.length : Int) then (gd (0 ≤ a0 ∧ a0 < (a1.length : Int)) <| (gd (0 ≤ a0 ∧ a0 < (a1.length : Int)) <| ((adt fu ((el a1 a0).1)).bind fun (a2 : Str) => (((if a2 = ([] : Str) then some true else ((aja fu a2).bind fun (a6 : Bool) => (bif (!a6) then some true else ((aja fu ((el a1 a0).2.1)).bind fun (a7 : Bool) => (bif (!a7) then some true else ((aiz fu a4 a2).bind fun (a8 : Bool) => some a8))))))).bind fun (a9 : Bool) => (bif a9 then some (.inr (([] : List (Str × Str × Bool)), false)) else (((if a3 = (2 : Int) then (bif (!((el a1 a0).2.2)) then some true else (if a3 = (1 : Int) then some (!(((el a1 a0).2.2) == (!decide (((el a1 a0).2.1) = ([] : Str))))) else some false)) else (if a3 = (1 : Int) then some (!(((el a1 a0).2.2) == (!decide (((el a1 a0).2.1) = ([] : Str))))) else some false))).bind fun (b0 : Bool) => (bif b0 then some (.inr (([] : List (Str × Str × Bool)), false)) else (gd ((a4.length + ([(a2, (el a1 a0).2.1, ((el a1 a0).2.2))] : List (Str × Str × Bool)).length) * 40 ≤ 140737488355328) <| (gd (ace (a0 + (1 : Int))) <| (ahi fu a1 a3 a5 (a4 ++ ([(a2, (el a1 a0).2.1, ((el a1 a0).2.2))] : List (Str × Str × Bool))) (a0 + (1 : Int)))))))))))) else some (.inl a4))
def ajv (fu : Nat) (a0 : List (Str × Str × Bool)) (a1 : Int) : Option ((List (Str × Str × Bool)) × Bool) :=
  (if (16 : Int) < (a0.length : Int) then some (([] : List (Str × Str × Bool)), false) else (((ahi fu a0 a1 fu ([] : List (Str × Str × Bool)) (0 : Int))).bind fun (a2 : ((List (Str × Str × Bool)) ⊕ ((List (Str × Str × Bool)) × Bool))) => Sum.elim (fun (a3 : List (Str × Str × Bool)) => ((agt fu a3).bind fun (a4 : List (Str × Str × Bool)) => some (a4, true))) (fun q => some q) a2))
def alq (fu : Nat) (a0 : (Str × Str × Str × Int × (List (Str × Str × Bool)) × (List (Str × Str × Bool)))) : Option ((Str × Str × Str × Int × (List (Str × Str × Bool)) × (List (Str × Str × Bool))) × UInt8) :=
  ((adt fu a0.1).bind fun (y7 : Str) => (((((if y7 = ([115, 105, 112] : Str) then some (decide (y7 = ([115, 105, 112] : Str))) else some (decide (y7 = ([115, 105, 112, 115] : Str))))).bind fun (a5 : Bool) => (bif a5 then ((age fu a0.2.2.1).bind fun (a1 : (Str × Bool)) => (bif a1.2 then (if (0 : Int) ≤ a0.2.2.2.1 then (if a0.2.2.2.1 ≤ (65535 : Int) then ((aja fu a0.2.1).bind fun (a6 : Bool) => some (a6, a1.1)) else some (false, a1.1)) else some (false, a1.1)) else some (false, a1.1))) else (if y7 = ([116, 101, 108] : Str) then (if a0.2.2.1 = ([] : Str) then (if a0.2.2.2.1 = (0 : Int) then (if (a0.2.2.2.2.2.length : Int) = (0 : Int) then ((alp fu a0.2.1).bind fun (a7 : Bool) => some (a7, ([] : Str))) else some (false, ([] : Str))) else some (false, ([] : Str))) else some (false, ([] : Str))) else some (false, ([] : Str)))))).bind fun (a2 : (Bool × Str)) => ((ajv fu a0.2.2.2.2.1 (1 : Int)).bind fun (a3 : ((List (Str × Str × Bool)) × Bool)) => ((ajv fu a0.2.2.2.2.2 (2 : Int)).bind fun (a4 : ((List (Str × Str × Bool)) × Bool)) => (((bif (!a2.1) then some true else (bif (!a3.2) then some true else some (!a4.2)))).bind fun (a8 : Bool) => (bif a8 then some ((([] : Str), ([] : Str), ([] : Str), (0 : Int), ([] : List (Str × Str × Bool)), ([] : List (Str × Str × Bool))), (2 : UInt8)) else some ((y7, a0.2.1, a2.2, a0.2.2.2.1, a3.1, a4.1), (0 : UInt8))))))))
def aak (fu : Nat) (a1 : (Unit × (List UInt8))) (a0 : Str) : Option (Int × Unit × (Unit × (List UInt8))) :=
  (gd ((a1.2.length + a0.length) * 1 ≤ 140737488355328) <| some ((a0.length : Int), (), ((), a1.2 ++ a0)))
def afy (fu : Nat) (s_0 : Str) (a2 : Int) : Nat → (List UInt8) → Int → Option (List UInt8)
  | 0, _, _ => none
  | a3 + 1, a1, a0 => (if a0 < (s_0.length : Int) then (gd (0 ≤ a0 ∧ a0 < (s_0.length : Int)) <| ((aji fu (at_ s_0 a0) a2).bind fun (a4 : Bool) => (bif a4 then (gd (0 ≤ a0 ∧ a0 < (s_0.length : Int)) <| (gd ((a1.length + ([at_ s_0 a0] : List UInt8).length) * 1 ≤ 140737488355328) <| (gd (ace (a0 + (1 : Int))) <| (afy fu s_0 a2 a3 (a1 ++ ([at_ s_0 a0] : List UInt8)) (a0 + (1 : Int)))))) else (gd (0 ≤ a0 ∧ a0 < (s_0.length : Int)) <| (gd (0 ≤ (4 : Int)) <| (gd (0 ≤ ((shr8 (at_ s_0 a0) (4 : Int)).toNat : Int) ∧ ((shr8 (at_ s_0 a0) (4 : Int)).toNat : Int) < (([48, 49, 50, 51, 52, 53, 54, 55, 56, 57, 65, 66, 67, 68, 69, 70] : Str).length : Int)) <| (gd (0 ≤ a0 ∧ a0 < (s_0.length : Int)) <| (gd (0 ≤ (((at_ s_0 a0) &&& (15 : UInt8)).toNat : Int) ∧ (((at_ s_0 a0) &&& (15 : UInt8)).toNat : Int) < (([48, 49, 50, 51, 52, 53, 54, 55, 56, 57, 65, 66, 67, 68, 69, 70] : Str).length : Int)) <| (gd ((a1.length + ([(37 : UInt8), at_ ([48, 49, 50, 51, 52, 53, 54, 55, 56, 57, 65, 66, 67, 68, 69, 70] : Str) ((shr8 (at_ s_0 a0) (4 : Int)).toNat : Int), at_ ([48, 49, 50, 51, 52, 53, 54, 55, 56, 57, 65, 66, 67, 68, 69, 70] : Str) (((at_ s_0 a0) &&& (15 : UInt8)).toNat : Int)] : List UInt8).length) * 1 ≤ 140737488355328) <| (gd (ace (a0 + (1 : Int))) <| (afy fu s_0 a2 a3 (a1 ++ ([(37 : UInt8), at_ ([48, 49, 50, 51, 52, 53, 54, 55, 56, 57, 65, 66, 67, 68, 69, 70] : Str) ((shr8 (at_ s_0 a0) (4 : Int)).toNat : Int), at_ ([48, 49, 50, 51, 52, 53, 54, 55, 56, 57, 65, 66, 67, 68, 69, 70] : Str) (((at_ s_0 a0) &&& (15 : UInt8)).toNat : Int)] : List UInt8)) (a0 + (1 : Int))))))))))))) else some a1)
def afv (fu : Nat) (s_0 : Str) (a0 : Int) : Option Str :=
  (gd (0 ≤ (s_0.length : Int) ∧ (1 : Int) * (s_0.length : Int) ≤ 281474976710656) <| (((afy fu s_0 a0 fu ([] : List UInt8) (0 : Int))).bind fun (a1 : List UInt8) => some a1))
end Go.Wk
set_option linter.unusedVariables false
set_option linter.unusedSimpArgs false
set_option maxRecDepth 20000
set_option maxHeartbeats 1000000
namespace Go.Wk
open Go.Px
def aex (fu : Nat) (a0 : (Unit × (List UInt8))) (a1 : UInt8) : Option (Unit × (Unit × (List UInt8))) :=
  (gd ((a0.2.length + ([a1] : List UInt8).length) * 1 ≤ 140737488355328) <| some ((), ((), a0.2 ++ ([a1] : List UInt8))))
def agp (fu : Nat) (y4 : ((Str × Str × Str × Int × (List (Str × Str × Bool)) × (List (Str × Str × Bool))) × UInt8)) : Nat → Int → (List UInt8) → Option (List UInt8)
  | 0, _, _ => none
  | a1 + 1, a0, a2 => (if a0 < (y4.1.2.2.2.2.1.length : Int) then (gd (0 ≤ a0 ∧ a0 < (y4.1.2.2.2.2.1.length : Int)) <| (gd (0 ≤ a0 ∧ a0 < (y4.1.2.2.2.2.1.length : Int)) <| ((afv fu ((el y4.1.2.2.2.2.1 a0).1) (1 : Int)).bind fun (a3 : Str) => (gd (([59] : Str).length + a3.length ≤ 9223372036854775807) <| ((aak fu ((), a2) (([59] : Str) ++ a3)).bind fun (a4 : (Int × Unit × (Unit × (List UInt8)))) => (bif ((el y4.1.2.2.2.2.1 a0).2.2) then ((afv fu ((el y4.1.2.2.2.2.1 a0).2.1) (1 : Int)).bind fun (a5 : Str) => (gd (([61] : Str).length + a5.length ≤ 9223372036854775807) <| ((aak fu ((), a4.2.2.2) (([61] : Str) ++ a5)).bind fun (a6 : (Int × Unit × (Unit × (List UInt8)))) => (gd (ace (a0 + (1 : Int))) <| (agp fu y4 a1 (a0 + (1 : Int)) a6.2.2.2))))) else (gd (ace (a0 + (1 : Int))) <| (agp fu y4 a1 (a0 + (1 : Int)) a4.2.2.2)))))))) else some a2)
def aid (fu : Nat) (y4 : ((Str × Str × Str × Int × (List (Str × Str × Bool)) × (List (Str × Str × Bool))) × UInt8)) : Nat → Int → (List UInt8) → Option (List UInt8)
  | 0, _, _ => none
  | a4 + 1, a0, a1 => (if a0 < (y4.1.2.2.2.2.2.length : Int) then (gd (0 ≤ a0 ∧ a0 < (y4.1.2.2.2.2.2.length : Int)) <| (gd (0 ≤ a0 ∧ a0 < (y4.1.2.2.2.2.2.length : Int)) <| (((if a0 = (0 : Int) then ((aex fu ((), a1) (63 : UInt8)).bind fun (a5 : (Unit × (Unit × (List UInt8)))) => some a5.2.2) else ((aex fu ((), a1) (38 : UInt8)).bind fun (a6 : (Unit × (Unit × (List UInt8)))) => some a6.2.2))).bind fun (a7 : List UInt8) => ((afv fu ((el y4.1.2.2.2.2.2 a0).1) (2 : Int)).bind fun (a2 : Str) => (gd (a2.length + ([61] : Str).length ≤ 9223372036854775807) <| ((afv fu ((el y4.1.2.2.2.2.2 a0).2.1) (2 : Int)).bind fun (a3 : Str) => (gd ((a2 ++ ([61] : Str)).length + a3.length ≤ 9223372036854775807) <| ((aak fu ((), a7) ((a2 ++ ([61] : Str)) ++ a3)).bind fun (a8 : (Int × Unit × (Unit × (List UInt8)))) => (gd (ace (a0 + (1 : Int))) <| (aid fu y4 a4 (a0 + (1 : Int)) a8.2.2.2)))))))))) else some a1)
def amh (fu : Nat) (a4 : (Str × Str × Str × Int × (List (Str × Str × Bool)) × (List (Str × Str × Bool)))) : Option (Str × UInt8) :=
  ((alq fu a4).bind fun (y4 : ((Str × Str × Str × Int × (List (Str × Str × Bool)) × (List (Str × Str × Bool))) × UInt8)) => (if y4.2 = (0 : UInt8) then (gd (y4.1.1.length + ([58] : Str).length ≤ 9223372036854775807) <| ((aak fu ((), ([] : List UInt8)) (y4.1.1 ++ ([58] : Str))).bind fun (a0 : (Int × Unit × (Unit × (List UInt8)))) => (((if y4.1.1 = ([116, 101, 108] : Str) then ((aak fu ((), a0.2.2.2) y4.1.2.1).bind fun (a5 : (Int × Unit × (Unit × (List UInt8)))) => some a5.2.2.2) else (if y4.1.2.1 = ([] : Str) then some a0.2.2.2 else ((afv fu y4.1.2.1 (0 : Int)).bind fun (a1 : Str) => (gd (a1.length + ([64] : Str).length ≤ 9223372036854775807) <| ((aak fu ((), a0.2.2.2) (a1 ++ ([64] : Str))).bind fun (a6 : (Int × Unit × (Unit × (List UInt8)))) => some a6.2.2.2)))))).bind fun (a7 : List UInt8) => ((aak fu ((), a7) y4.1.2.2.1).bind fun (a2 : (Int × Unit × (Unit × (List UInt8)))) => (((if y4.1.2.2.2.1 = (0 : Int) then some a2.2.2.2 else (gd (ace y4.1.2.2.2.1) <| (gd (([58] : Str).length + (Lib.itoa y4.1.2.2.2.1).length ≤ 9223372036854775807) <| ((aak fu ((), a2.2.2.2) (([58] : Str) ++ (Lib.itoa y4.1.2.2.2.1))).bind fun (a8 : (Int × Unit × (Unit × (List UInt8)))) => some a8.2.2.2))))).bind fun (a9 : List UInt8) => (((agp fu y4 fu (0 : Int) a9)).bind fun (b0 : List UInt8) => (((aid fu y4 fu (0 : Int) b0)).bind fun (a3 : List UInt8) => (gd (a3.length ≤ 140737488355328) <| some (a3, (0 : UInt8)))))))))) else some (([] : Str), y4.2)))
def aen (fu : Nat) (a1 : List (Str × Str × Bool)) : Nat → Int → (List UInt8) → Option ((List UInt8) ⊕ (Str × UInt8))
  | 0, _, _ => none
  | a2 + 1, a0, a3 => (if a0 < (a1.length : Int) then (gd (0 ≤ a0 ∧ a0 < (a1.length : Int)) <| (gd (0 ≤ a0 ∧ a0 < (a1.length : Int)) <| ((((aey fu ((el a1 a0).1)).bind fun (a8 : Bool) => (bif (!a8) then some true else ((adt fu ((el a1 a0).1)).bind fun (a9 : Str) => (if ((el a1 a0).1) = a9 then (gd (0 ≤ a0 ∧ a0 ≤ (a1.length : Int)) <| ((aiz fu (List.take (Int.toNat a0) a1) ((el a1 a0).1)).bind fun (b0 : Bool) => some b0)) else some true))))).bind fun (b1 : Bool) => (bif b1 then some (.inr (([] : Str), (2 : UInt8))) else (gd (([59] : Str).length + ((el a1 a0).1).length ≤ 9223372036854775807) <| ((aak fu ((), a3) (([59] : Str) ++ ((el a1 a0).1))).bind fun (a4 : (Int × Unit × (Unit × (List UInt8)))) => (bif (!((el a1 a0).2.2)) then (if ((el a1 a0).2.1) = ([] : Str) then (gd (ace (a0 + (1 : Int))) <| (aen fu a1 a2 (a0 + (1 : Int)) a4.2.2.2)) else some (.inr (([] : Str), (2 : UInt8)))) else ((((age fu ((el a1 a0).2.1)).bind fun (a5 : (Str × Bool)) => ((((aey fu ((el a1 a0).2.1)).bind fun (b2 : Bool) => (bif (!b2) then (bif a5.2 then (if a5.1 = ((el a1 a0).2.1) then (gd (0 ≤ (0 : Int) ∧ (0 : Int) < (((el a1 a0).2.1).length : Int)) <| some (!decide ((at_ ((el a1 a0).2.1) (0 : Int)) = (91 : UInt8)))) else some true) else some true) else some false))).bind fun (b3 : Bool) => (bif b3 then ((akl fu ((el a1 a0).2.1)).bind fun (a6 : (Str × UInt8)) => (if a6.2 = (0 : UInt8) then some (.inl a6.1) else some (.inr (([] : Str), (2 : UInt8))))) else some (.inl ((el a1 a0).2.1)))))).bind fun (b4 : (Str ⊕ (Str × UInt8))) => Sum.elim (fun (a7 : Str) => (gd (([61] : Str).length + a7.length ≤ 9223372036854775807) <| ((aak fu ((), a4.2.2.2) (([61] : Str) ++ a7)).bind fun (b5 : (Int × Unit × (Unit × (List UInt8)))) => (gd (ace (a0 + (1 : Int))) <| (aen fu a1 a2 (a0 + (1 : Int)) b5.2.2.2))))) (fun q => some (.inr q)) b4)))))))) else some (.inl a3))
def afp (fu : Nat) (a0 : List (Str × Str × Bool)) : Option (Str × UInt8) :=
  (if (16 : Int) < (a0.length : Int) then some (([] : Str), (2 : UInt8)) else (((aen fu a0 fu (0 : Int) ([] : List UInt8))).bind fun (a2 : ((List UInt8) ⊕ (Str × UInt8))) => Sum.elim (fun (a1 : List UInt8) => (gd (a1.length ≤ 140737488355328) <| some (a1, (0 : UInt8)))) (fun q => some q) a2))
def aim (fu : Nat) (a2 : (Str × (Str × Str × Str × Int × (List (Str × Str × Bool)) × (List (Str × Str × Bool))) × (List (Str × Str × Bool)))) : Option (Str × UInt8) :=
  ((akl fu a2.1).bind fun (y4 : (Str × UInt8)) => (if y4.2 = (0 : UInt8) then ((amh fu a2.2.1).bind fun (a0 : (Str × UInt8)) => (if a0.2 = (0 : UInt8) then ((agt fu a2.2.2).bind fun (a3 : List (Str × Str × Bool)) => ((afp fu a3).bind fun (a1 : (Str × UInt8)) => (if a1.2 = (0 : UInt8) then (if a2.1 = ([] : Str) then (gd (([60] : Str).length + a0.1.length ≤ 9223372036854775807) <| (gd ((([60] : Str) ++ a0.1).length + ([62] : Str).length ≤ 9223372036854775807) <| (gd (((([60] : Str) ++ a0.1) ++ ([62] : Str)).length + a1.1.length ≤ 9223372036854775807) <| some (((([60] : Str) ++ a0.1) ++ ([62] : Str)) ++ a1.1, (0 : UInt8))))) else (gd (y4.1.length + ([32, 60] : Str).length ≤ 9223372036854775807) <| (gd ((y4.1 ++ ([32, 60] : Str)).length + a0.1.length ≤ 9223372036854775807) <| (gd (((y4.1 ++ ([32, 60] : Str)) ++ a0.1).length + ([62] : Str).length ≤ 9223372036854775807) <| (gd ((((y4.1 ++ ([32, 60] : Str)) ++ a0.1) ++ ([62] : Str)).length + a1.1.length ≤ 9223372036854775807) <| some ((((y4.1 ++ ([32, 60] : Str)) ++ a0.1) ++ ([62] : Str)) ++ a1.1, (0 : UInt8))))))) else some (([] : Str), (2 : UInt8))))) else some (([] : Str), (2 : UInt8)))) else some (([] : Str), (2 : UInt8))))
def ade (fu : Nat) (s_0 : Str) : Nat → Str → Int → Option Str
  | 0, _, _ => none
  | a2 + 1, a1, a0 => (if a0 < (s_0.length : Int) then (gd (0 ≤ a0 ∧ a0 < (a1.length : Int)) <| (gd (0 ≤ a0 ∧ a0 < (a1.length : Int)) <| ((aio fu (at_ a1 a0)).bind fun (a3 : UInt8) => (gd (0 ≤ a0 ∧ a0 < (a1.length : Int)) <| (gd (0 ≤ a0 ∧ a0 < (a1.length : Int)) <| (gd (ace (a0 + (1 : Int))) <| (ade fu s_0 a2 (List.set a1 (Int.toNat a0) a3) (a0 + (1 : Int))))))))) else some a1)
def acx (fu : Nat) (s_0 : Str) : Option Str :=
  (((ade fu s_0 fu s_0 (0 : Int))).bind fun (a0 : Str) => some a0)
def alk (fu : Nat) (s_0 : Str) : Option (Str × Str × Bool) :=
  (gd (s_0.length ≤ 1000000000) <| (((if (ann (· == (58 : UInt8)) s_0) < (0 : Int) then some true else (gd (0 ≤ (ann (· == (58 : UInt8)) s_0) ∧ (ann (· == (58 : UInt8)) s_0) ≤ (s_0.length : Int)) <| (gd ((List.take (Int.toNat (ann (· == (58 : UInt8)) s_0)) s_0).length ≤ 1000000000) <| (bif (Lib.contains (List.take (Int.toNat (ann (· == (58 : UInt8)) s_0)) s_0) ([91] : Str)) then (gd (0 ≤ (ann (· == (58 : UInt8)) s_0) ∧ (ann (· == (58 : UInt8)) s_0) ≤ (s_0.length : Int)) <| (gd ((List.drop (Int.toNat (ann (· == (58 : UInt8)) s_0)) s_0).length ≤ 1000000000) <| some (Lib.contains (List.drop (Int.toNat (ann (· == (58 : UInt8)) s_0)) s_0) ([93] : Str)))) else some false))))).bind fun (a0 : Bool) => (bif a0 then some (s_0, ([] : Str), false) else (gd (0 ≤ (ann (· == (58 : UInt8)) s_0) ∧ (ann (· == (58 : UInt8)) s_0) ≤ (s_0.length : Int)) <| (gd (ace ((ann (· == (58 : UInt8)) s_0) + (1 : Int))) <| (gd (0 ≤ ((ann (· == (58 : UInt8)) s_0) + (1 : Int)) ∧ ((ann (· == (58 : UInt8)) s_0) + (1 : Int)) ≤ (s_0.length : Int)) <| some (List.take (Int.toNat (ann (· == (58 : UInt8)) s_0)) s_0, List.drop (Int.toNat ((ann (· == (58 : UInt8)) s_0) + (1 : Int))) s_0, true)))))))
def ajk (fu : Nat) (a1 : List (Str × Str × Bool)) (y1 : Str) : Nat → Int → Option (Unit ⊕ (Str × Bool))
  | 0, _ => none
  | a2 + 1, a0 => (if a0 < (a1.length : Int) then (gd (0 ≤ a0 ∧ a0 < (a1.length : Int)) <| (gd (0 ≤ a0 ∧ a0 < (a1.length : Int)) <| ((adt fu ((el a1 a0).1)).bind fun (a3 : Str) => (if a3 = y1 then some (.inr ((el a1 a0).2.1, true)) else (gd (ace (a0 + (1 : Int))) <| (ajk fu a1 y1 a2 (a0 + (1 : Int)))))))) else some (.inl ()))
def anv (fu : Nat) (a0 : List (Str × Str × Bool)) (a1 : Str) : Option (Str × Bool) :=
  ((adt fu a1).bind fun (y1 : Str) => (((ajk fu a0 y1 fu (0 : Int))).bind fun (a2 : (Unit ⊕ (Str × Bool))) => Sum.elim (fun (a3 : Unit) => some (([] : Str), false)) (fun q => some q) a2))
def amr (fu : Nat) (a8 : Str) : Option ((Str × Str × Int × Str × (List (Str × Str × Bool))) × UInt8) :=
  ((aeq fu a8).bind fun (y4 : Str) => (((if (y4.length : Int) < (8 : Int) then some true else (gd (0 ≤ (8 : Int) ∧ (8 : Int) ≤ (y4.length : Int)) <| ((acx fu (List.take (Int.toNat (8 : Int)) y4)).bind fun (a9 : Str) => some (!decide (a9 = ([83, 73, 80, 47, 50, 46, 48, 47] : Str))))))).bind fun (b0 : Bool) => (bif b0 then some ((([] : Str), ([] : Str), (0 : Int), ([] : Str), ([] : List (Str × Str × Bool))), (5 : UInt8)) else ((afu fu y4 (8 : Int)).bind fun (a1 : Int) => ((agd fu y4 a1).bind fun (a0 : Int) => (((if a1 = (8 : Int) then some true else some (decide (a0 = a1)))).bind fun (b1 : Bool) => (bif b1 then some ((([] : Str), ([] : Str), (0 : Int), ([] : Str), ([] : List (Str × Str × Bool))), (5 : UInt8)) else (gd (0 ≤ (8 : Int) ∧ (8 : Int) ≤ a1 ∧ a1 ≤ (y4.length : Int)) <| ((acx fu (sub y4 (8 : Int) a1)).bind fun (b2 : Str) => (gd (0 ≤ a0 ∧ a0 ≤ (y4.length : Int)) <| (((gd ((List.drop (Int.toNat a0) y4).length ≤ 1000000000 ∧ ([59, 32, 9] : Str).length ≤ 1000 ∧ ([59, 32, 9] : Str).all (fun b => decide (b.toNat < 128)) = true ∧ (8 < (List.drop (Int.toNat a0) y4).length ∨ ([59, 32, 9] : Str).length ≤ 1 ∨ (List.drop (Int.toNat a0) y4).all (fun b => decide (b.toNat < 128)) = true)) <| (if (0 : Int) ≤ (Lib.indexAny (List.drop (Int.toNat a0) y4) ([59, 32, 9] : Str)) then (gd (0 ≤ (Lib.indexAny (List.drop (Int.toNat a0) y4) ([59, 32, 9] : Str)) ∧ (Lib.indexAny (List.drop (Int.toNat a0) y4) ([59, 32, 9] : Str)) ≤ ((List.drop (Int.toNat a0) y4).length : Int)) <| (gd (0 ≤ (Lib.indexAny (List.drop (Int.toNat a0) y4) ([59, 32, 9] : Str)) ∧ (Lib.indexAny (List.drop (Int.toNat a0) y4) ([59, 32, 9] : Str)) ≤ ((List.drop (Int.toNat a0) y4).length : Int)) <| some (List.take (Int.toNat (Lib.indexAny (List.drop (Int.toNat a0) y4) ([59, 32, 9] : Str))) (List.drop (Int.toNat a0) y4), List.drop (Int.toNat (Lib.indexAny (List.drop (Int.toNat a0) y4) ([59, 32, 9] : Str))) (List.drop (Int.toNat a0) y4)))) else some (List.drop (Int.toNat a0) y4, ([] : Str))))).bind fun (a5 : (Str × Str)) => ((alk fu a5.1).bind fun (a4 : (Str × Str × Bool)) => ((age fu a4.1).bind fun (a6 : (Str × Bool)) => (bif (!a6.2) then some ((([] : Str), ([] : Str), (0 : Int), ([] : Str), ([] : List (Str × Str × Bool))), (5 : UInt8)) else (((bif a4.2.2 then ((agc fu a4.2.1).bind fun (a2 : (Int × UInt8)) => (((((if a2.2 = (0 : UInt8) then (if a2.1 < (1 : Int) then some true else some (decide ((65535 : Int) < a2.1))) else some false)).bind fun (b3 : Bool) => (bif b3 then some (3 : UInt8) else some a2.2))).bind fun (a7 : UInt8) => (if a7 = (0 : UInt8) then some (.inl a2.1) else some (.inr ((([] : Str), ([] : Str), (0 : Int), ([] : Str), ([] : List (Str × Str × Bool))), a7))))) else some (.inl (0 : Int)))).bind fun (b4 : (Int ⊕ ((Str × Str × Int × Str × (List (Str × Str × Bool))) × UInt8))) => Sum.elim (fun (b5 : Int) => ((aii fu a5.2).bind fun (a3 : ((List (Str × Str × Bool)) × Int × UInt8)) => (if a3.2.2 = (0 : UInt8) then ((anv fu a3.1 ([98, 114, 97, 110, 99, 104] : Str)).bind fun (b6 : (Str × Bool)) => some ((b2, a6.1, b5, b6.1, a3.1), (0 : UInt8))) else some ((([] : Str), ([] : Str), (0 : Int), ([] : Str), ([] : List (Str × Str × Bool))), a3.2.2)))) (fun q => some q) b4)))))))))))))))
end Go.Wk
set_option linter.unusedVariables false
set_option linter.unusedSimpArgs false
set_option maxRecDepth 20000
set_option maxHeartbeats 1000000
namespace Go.Wk
open Go.Px
def aix (fu : Nat) (s_0 : List (Str × Str × Bool)) : Option (List (Str × Str × Bool)) :=
  some s_0
def acy (fu : Nat) (a0 : (Str × Str × Bool)) (a1 : List (Str × Str × Bool)) : Option (Nat × (List (Str × Str × Bool))) :=
  (gd ((a1.length + ([a0] : List (Str × Str × Bool)).length) * 40 ≤ 140737488355328) <| some (0, a1 ++ ([a0] : List (Str × Str × Bool))))
def aam (fu : Nat) (a1 : List (Str × Str × Bool)) : Nat → Int → (List (Str × Str × Bool)) → Option ((List (Str × Str × Bool)) × Nat)
  | 0, _, _ => none
  | a4 + 1, a0, a3 => (if a0 < (a1.length : Int) then (gd (0 ≤ a0 ∧ a0 < (a1.length : Int)) <| (gd (0 ≤ a0 ∧ a0 < (a1.length : Int)) <| ((acy fu ((el a1 a0).1, (el a1 a0).2.1, ((el a1 a0).2.2)) a3).bind fun (a2 : (Nat × (List (Str × Str × Bool)))) => (if a2.1 = 0 then (gd (ace (a0 + (1 : Int))) <| (aam fu a1 a4 (a0 + (1 : Int)) a2.2)) else some (a2.2, a2.1))))) else some (a3, 0))
def abs (fu : Nat) (a0 : List (Str × Str × Bool)) (a1 : List (Str × Str × Bool)) : Option ((List (Str × Str × Bool)) × Nat) :=
  (aam fu a1 fu (0 : Int) a0)
def aem (fu : Nat) (s_0 : List (Str × Str × Bool)) (a1 : List (Str × Str × Bool)) : Option (List (Str × Str × Bool)) :=
  ((abs fu s_0 a1).bind fun (a0 : ((List (Str × Str × Bool)) × Nat)) => (if a0.2 = 0 then some a0.1 else none))
def aev (fu : Nat) (a0 : List (Str × Str × Bool)) : Option (List (Str × Str × Bool)) :=
  ((aem fu ([] : List (Str × Str × Bool)) a0).bind fun (y1 : List (Str × Str × Bool)) => some y1)
def agh (fu : Nat) (a0 : (Str × Str × Bool)) (a1 : (Str × Str × Bool)) : Option Int :=
  ((ahh fu a0.1 a1.1).bind fun (y7 : Int) => some y7)
def abi (fu : Nat) (a2 : Int) : Nat → (List (Str × Str × Bool)) → Int → Option (List (Str × Str × Bool))
  | 0, _, _ => none
  | a3 + 1, a1, a0 => (((if a2 < a0 then (gd (0 ≤ a0 ∧ a0 < (a1.length : Int)) <| (gd (0 ≤ a0 ∧ a0 < (a1.length : Int)) <| (gd (ace (a0 - (1 : Int))) <| (gd (0 ≤ (a0 - (1 : Int)) ∧ (a0 - (1 : Int)) < (a1.length : Int)) <| (gd (0 ≤ (a0 - (1 : Int)) ∧ (a0 - (1 : Int)) < (a1.length : Int)) <| ((agh fu ((el a1 a0).1, (el a1 a0).2.1, ((el a1 a0).2.2)) ((el a1 (a0 - (1 : Int))).1, (el a1 (a0 - (1 : Int))).2.1, ((el a1 (a0 - (1 : Int))).2.2))).bind fun (a4 : Int) => some (decide (a4 < (0 : Int))))))))) else some false)).bind fun (a5 : Bool) => (bif a5 then (gd (ace (a0 - (1 : Int))) <| (gd (ace (a0 - (1 : Int))) <| (gd (0 ≤ (a0 - (1 : Int)) ∧ (a0 - (1 : Int)) < (a1.length : Int)) <| (gd (0 ≤ (a0 - (1 : Int)) ∧ (a0 - (1 : Int)) < (a1.length : Int)) <| (gd (0 ≤ a0 ∧ a0 < (a1.length : Int)) <| (gd (0 ≤ a0 ∧ a0 < (a1.length : Int)) <| (gd (0 ≤ a0 ∧ a0 < (a1.length : Int)) <| (gd (0 ≤ a0 ∧ a0 < (a1.length : Int)) <| (gd (0 ≤ (a0 - (1 : Int)) ∧ (a0 - (1 : Int)) < ((List.set a1 (Int.toNat a0) ((el a1 (a0 - (1 : Int))).1, (el a1 (a0 - (1 : Int))).2.1, ((el a1 (a0 - (1 : Int))).2.2))).length : Int)) <| (gd (0 ≤ (a0 - (1 : Int)) ∧ (a0 - (1 : Int)) < ((List.set a1 (Int.toNat a0) ((el a1 (a0 - (1 : Int))).1, (el a1 (a0 - (1 : Int))).2.1, ((el a1 (a0 - (1 : Int))).2.2))).length : Int)) <| (gd (ace (a0 - (1 : Int))) <| (abi fu a2 a3 (List.set (List.set a1 (Int.toNat a0) ((el a1 (a0 - (1 : Int))).1, (el a1 (a0 - (1 : Int))).2.1, ((el a1 (a0 - (1 : Int))).2.2))) (Int.toNat (a0 - (1 : Int))) ((el a1 a0).1, (el a1 a0).2.1, ((el a1 a0).2.2))) (a0 - (1 : Int)))))))))))))) else some a1))
def abj (fu : Nat) (a1 : Int) (a2 : Int) : Nat → (List (Str × Str × Bool)) → Int → Option (List (Str × Str × Bool))
  | 0, _, _ => none
  | a4 + 1, a3, a0 => (if a0 < a2 then (((abi fu a1 fu a3 a0)).bind fun (a5 : List (Str × Str × Bool)) => (gd (ace (a0 + (1 : Int))) <| (abj fu a1 a2 a4 a5 (a0 + (1 : Int))))) else some a3)
def abr (fu : Nat) (a1 : List (Str × Str × Bool)) (a0 : Int) (a2 : Int) : Option (List (Str × Str × Bool)) :=
  (gd (ace (a0 + (1 : Int))) <| (abj fu a0 a2 fu a1 (a0 + (1 : Int))))
def abq (fu : Nat) (a3 : Int) (a2 : Int) (a4 : Int) : Nat → (List (Str × Str × Bool)) → Int → Option (List (Str × Str × Bool))
  | 0, _, _ => none
  | a5 + 1, a1, a0 => (if a0 < a4 then (gd (ace (a3 + a0)) <| (gd (ace (a2 + a0)) <| (gd (ace (a2 + a0)) <| (gd (0 ≤ (a2 + a0) ∧ (a2 + a0) < (a1.length : Int)) <| (gd (0 ≤ (a2 + a0) ∧ (a2 + a0) < (a1.length : Int)) <| (gd (ace (a3 + a0)) <| (gd (0 ≤ (a3 + a0) ∧ (a3 + a0) < (a1.length : Int)) <| (gd (0 ≤ (a3 + a0) ∧ (a3 + a0) < (a1.length : Int)) <| (gd (0 ≤ (a3 + a0) ∧ (a3 + a0) < (a1.length : Int)) <| (gd (0 ≤ (a3 + a0) ∧ (a3 + a0) < (a1.length : Int)) <| (gd (0 ≤ (a2 + a0) ∧ (a2 + a0) < ((List.set a1 (Int.toNat (a3 + a0)) ((el a1 (a2 + a0)).1, (el a1 (a2 + a0)).2.1, ((el a1 (a2 + a0)).2.2))).length : Int)) <| (gd (0 ≤ (a2 + a0) ∧ (a2 + a0) < ((List.set a1 (Int.toNat (a3 + a0)) ((el a1 (a2 + a0)).1, (el a1 (a2 + a0)).2.1, ((el a1 (a2 + a0)).2.2))).length : Int)) <| (gd (ace (a0 + (1 : Int))) <| (abq fu a3 a2 a4 a5 (List.set (List.set a1 (Int.toNat (a3 + a0)) ((el a1 (a2 + a0)).1, (el a1 (a2 + a0)).2.1, ((el a1 (a2 + a0)).2.2))) (Int.toNat (a2 + a0)) ((el a1 (a3 + a0)).1, (el a1 (a3 + a0)).2.1, ((el a1 (a3 + a0)).2.2))) (a0 + (1 : Int)))))))))))))))) else some a1)
def abh (fu : Nat) (a0 : List (Str × Str × Bool)) (a1 : Int) (a2 : Int) (a3 : Int) : Option (List (Str × Str × Bool)) :=
  (abq fu a1 a2 a3 fu a0 (0 : Int))
end Go.Wk
set_option linter.unusedVariables false
set_option linter.unusedSimpArgs false
set_option maxRecDepth 20000
set_option maxHeartbeats 1000000
namespace Go.Wk
open Go.Px
def abd (fu : Nat) (a2 : Int) : Nat → (List (Str × Str × Bool)) → Int → Int → Option ((List (Str × Str × Bool)) × Int)
  | 0, _, _, _ => none
  | a4 + 1, a3, a0, a1 => (if a0 = a1 then some (a3, a0) else (if a1 < a0 then (gd (ace (a2 - a0)) <| ((abh fu a3 (a2 - a0) a2 a1).bind fun (a5 : List (Str × Str × Bool)) => (gd (ace (a0 - a1)) <| (abd fu a2 a4 a5 (a0 - a1) a1)))) else (gd (ace (a2 - a0)) <| (gd (ace (a2 + a1)) <| (gd (ace ((a2 + a1) - a0)) <| ((abh fu a3 (a2 - a0) ((a2 + a1) - a0) a0).bind fun (a6 : List (Str × Str × Bool)) => (gd (ace (a1 - a0)) <| (abd fu a2 a4 a6 a0 (a1 - a0)))))))))
def ado (fu : Nat) (a4 : List (Str × Str × Bool)) (a2 : Int) (a0 : Int) (a3 : Int) : Option (List (Str × Str × Bool)) :=
  (gd (ace (a0 - a2)) <| (gd (ace (a3 - a0)) <| (((abd fu a0 fu a4 (a0 - a2) (a3 - a0))).bind fun (a1 : ((List (Str × Str × Bool)) × Int)) => (gd (ace (a0 - a1.2)) <| ((abh fu a1.1 (a0 - a1.2) a0 a1.2).bind fun (a5 : List (Str × Str × Bool)) => some a5)))))
def aay (fu : Nat) (a2 : List (Str × Str × Bool)) (a3 : Int) : Nat → Int → Int → Option Int
  | 0, _, _ => none
  | a4 + 1, a0, a1 => (if a0 < a1 then (gd (ace (a0 + a1)) <| (gd (0 ≤ (IntKind.wrap .i64 ((IntKind.wrap .u64 (a0 + a1)) / 2)) ∧ (IntKind.wrap .i64 ((IntKind.wrap .u64 (a0 + a1)) / 2)) < (a2.length : Int)) <| (gd (0 ≤ (IntKind.wrap .i64 ((IntKind.wrap .u64 (a0 + a1)) / 2)) ∧ (IntKind.wrap .i64 ((IntKind.wrap .u64 (a0 + a1)) / 2)) < (a2.length : Int)) <| (gd (0 ≤ a3 ∧ a3 < (a2.length : Int)) <| (gd (0 ≤ a3 ∧ a3 < (a2.length : Int)) <| ((agh fu ((el a2 (IntKind.wrap .i64 ((IntKind.wrap .u64 (a0 + a1)) / 2))).1, (el a2 (IntKind.wrap .i64 ((IntKind.wrap .u64 (a0 + a1)) / 2))).2.1, ((el a2 (IntKind.wrap .i64 ((IntKind.wrap .u64 (a0 + a1)) / 2))).2.2)) ((el a2 a3).1, (el a2 a3).2.1, ((el a2 a3).2.2))).bind fun (a5 : Int) => (if a5 < (0 : Int) then (gd (ace ((IntKind.wrap .i64 ((IntKind.wrap .u64 (a0 + a1)) / 2)) + (1 : Int))) <| (aay fu a2 a3 a4 ((IntKind.wrap .i64 ((IntKind.wrap .u64 (a0 + a1)) / 2)) + (1 : Int)) a1)) else (aay fu a2 a3 a4 a0 (IntKind.wrap .i64 ((IntKind.wrap .u64 (a0 + a1)) / 2)))))))))) else some a0)
def abu (fu : Nat) (a2 : Int) : Nat → (List (Str × Str × Bool)) → Int → Option (List (Str × Str × Bool))
  | 0, _, _ => none
  | a3 + 1, a1, a0 => (gd (ace (a2 - (1 : Int))) <| (if a0 < (a2 - (1 : Int)) then (gd (ace (a0 + (1 : Int))) <| (gd (ace (a0 + (1 : Int))) <| (gd (0 ≤ (a0 + (1 : Int)) ∧ (a0 + (1 : Int)) < (a1.length : Int)) <| (gd (0 ≤ (a0 + (1 : Int)) ∧ (a0 + (1 : Int)) < (a1.length : Int)) <| (gd (0 ≤ a0 ∧ a0 < (a1.length : Int)) <| (gd (0 ≤ a0 ∧ a0 < (a1.length : Int)) <| (gd (0 ≤ a0 ∧ a0 < (a1.length : Int)) <| (gd (0 ≤ a0 ∧ a0 < (a1.length : Int)) <| (gd (0 ≤ (a0 + (1 : Int)) ∧ (a0 + (1 : Int)) < ((List.set a1 (Int.toNat a0) ((el a1 (a0 + (1 : Int))).1, (el a1 (a0 + (1 : Int))).2.1, ((el a1 (a0 + (1 : Int))).2.2))).length : Int)) <| (gd (0 ≤ (a0 + (1 : Int)) ∧ (a0 + (1 : Int)) < ((List.set a1 (Int.toNat a0) ((el a1 (a0 + (1 : Int))).1, (el a1 (a0 + (1 : Int))).2.1, ((el a1 (a0 + (1 : Int))).2.2))).length : Int)) <| (gd (ace (a0 + (1 : Int))) <| (abu fu a2 a3 (List.set (List.set a1 (Int.toNat a0) ((el a1 (a0 + (1 : Int))).1, (el a1 (a0 + (1 : Int))).2.1, ((el a1 (a0 + (1 : Int))).2.2))) (Int.toNat (a0 + (1 : Int))) ((el a1 a0).1, (el a1 a0).2.1, ((el a1 a0).2.2))) (a0 + (1 : Int)))))))))))))) else some a1))
def aax (fu : Nat) (a2 : List (Str × Str × Bool)) (a3 : Int) : Nat → Int → Int → Option Int
  | 0, _, _ => none
  | a4 + 1, a0, a1 => (if a0 < a1 then (gd (ace (a0 + a1)) <| (gd (0 ≤ a3 ∧ a3 < (a2.length : Int)) <| (gd (0 ≤ a3 ∧ a3 < (a2.length : Int)) <| (gd (0 ≤ (IntKind.wrap .i64 ((IntKind.wrap .u64 (a0 + a1)) / 2)) ∧ (IntKind.wrap .i64 ((IntKind.wrap .u64 (a0 + a1)) / 2)) < (a2.length : Int)) <| (gd (0 ≤ (IntKind.wrap .i64 ((IntKind.wrap .u64 (a0 + a1)) / 2)) ∧ (IntKind.wrap .i64 ((IntKind.wrap .u64 (a0 + a1)) / 2)) < (a2.length : Int)) <| ((agh fu ((el a2 a3).1, (el a2 a3).2.1, ((el a2 a3).2.2)) ((el a2 (IntKind.wrap .i64 ((IntKind.wrap .u64 (a0 + a1)) / 2))).1, (el a2 (IntKind.wrap .i64 ((IntKind.wrap .u64 (a0 + a1)) / 2))).2.1, ((el a2 (IntKind.wrap .i64 ((IntKind.wrap .u64 (a0 + a1)) / 2))).2.2))).bind fun (a5 : Int) => (if a5 < (0 : Int) then (aax fu a2 a3 a4 a0 (IntKind.wrap .i64 ((IntKind.wrap .u64 (a0 + a1)) / 2))) else (gd (ace ((IntKind.wrap .i64 ((IntKind.wrap .u64 (a0 + a1)) / 2)) + (1 : Int))) <| (aax fu a2 a3 a4 ((IntKind.wrap .i64 ((IntKind.wrap .u64 (a0 + a1)) / 2)) + (1 : Int)) a1))))))))) else some a0)
def abt (fu : Nat) (a2 : Int) : Nat → (List (Str × Str × Bool)) → Int → Option (List (Str × Str × Bool))
  | 0, _, _ => none
  | a3 + 1, a1, a0 => (if a2 < a0 then (gd (ace (a0 - (1 : Int))) <| (gd (ace (a0 - (1 : Int))) <| (gd (0 ≤ (a0 - (1 : Int)) ∧ (a0 - (1 : Int)) < (a1.length : Int)) <| (gd (0 ≤ (a0 - (1 : Int)) ∧ (a0 - (1 : Int)) < (a1.length : Int)) <| (gd (0 ≤ a0 ∧ a0 < (a1.length : Int)) <| (gd (0 ≤ a0 ∧ a0 < (a1.length : Int)) <| (gd (0 ≤ a0 ∧ a0 < (a1.length : Int)) <| (gd (0 ≤ a0 ∧ a0 < (a1.length : Int)) <| (gd (0 ≤ (a0 - (1 : Int)) ∧ (a0 - (1 : Int)) < ((List.set a1 (Int.toNat a0) ((el a1 (a0 - (1 : Int))).1, (el a1 (a0 - (1 : Int))).2.1, ((el a1 (a0 - (1 : Int))).2.2))).length : Int)) <| (gd (0 ≤ (a0 - (1 : Int)) ∧ (a0 - (1 : Int)) < ((List.set a1 (Int.toNat a0) ((el a1 (a0 - (1 : Int))).1, (el a1 (a0 - (1 : Int))).2.1, ((el a1 (a0 - (1 : Int))).2.2))).length : Int)) <| (gd (ace (a0 - (1 : Int))) <| (abt fu a2 a3 (List.set (List.set a1 (Int.toNat a0) ((el a1 (a0 - (1 : Int))).1, (el a1 (a0 - (1 : Int))).2.1, ((el a1 (a0 - (1 : Int))).2.2))) (Int.toNat (a0 - (1 : Int))) ((el a1 a0).1, (el a1 a0).2.1, ((el a1 a0).2.2))) (a0 - (1 : Int)))))))))))))) else some a1)
def aaw (fu : Nat) (a2 : List (Str × Str × Bool)) (a3 : Int) (a4 : Int) (a5 : Int) : Nat → Int → Int → Option Int
  | 0, _, _ => none
  | a6 + 1, a0, a1 => (if a0 < a1 then (gd (ace (a0 + a1)) <| (gd (ace ((((IntKind.wrap .i64 ((IntKind.wrap .u64 (a3 + a5)) / 2)) + a4) - (1 : Int)) - (IntKind.wrap .i64 ((IntKind.wrap .u64 (a0 + a1)) / 2)))) <| (gd (0 ≤ ((((IntKind.wrap .i64 ((IntKind.wrap .u64 (a3 + a5)) / 2)) + a4) - (1 : Int)) - (IntKind.wrap .i64 ((IntKind.wrap .u64 (a0 + a1)) / 2))) ∧ ((((IntKind.wrap .i64 ((IntKind.wrap .u64 (a3 + a5)) / 2)) + a4) - (1 : Int)) - (IntKind.wrap .i64 ((IntKind.wrap .u64 (a0 + a1)) / 2))) < (a2.length : Int)) <| (gd (0 ≤ ((((IntKind.wrap .i64 ((IntKind.wrap .u64 (a3 + a5)) / 2)) + a4) - (1 : Int)) - (IntKind.wrap .i64 ((IntKind.wrap .u64 (a0 + a1)) / 2))) ∧ ((((IntKind.wrap .i64 ((IntKind.wrap .u64 (a3 + a5)) / 2)) + a4) - (1 : Int)) - (IntKind.wrap .i64 ((IntKind.wrap .u64 (a0 + a1)) / 2))) < (a2.length : Int)) <| (gd (0 ≤ (IntKind.wrap .i64 ((IntKind.wrap .u64 (a0 + a1)) / 2)) ∧ (IntKind.wrap .i64 ((IntKind.wrap .u64 (a0 + a1)) / 2)) < (a2.length : Int)) <| (gd (0 ≤ (IntKind.wrap .i64 ((IntKind.wrap .u64 (a0 + a1)) / 2)) ∧ (IntKind.wrap .i64 ((IntKind.wrap .u64 (a0 + a1)) / 2)) < (a2.length : Int)) <| ((agh fu ((el a2 ((((IntKind.wrap .i64 ((IntKind.wrap .u64 (a3 + a5)) / 2)) + a4) - (1 : Int)) - (IntKind.wrap .i64 ((IntKind.wrap .u64 (a0 + a1)) / 2)))).1, (el a2 ((((IntKind.wrap .i64 ((IntKind.wrap .u64 (a3 + a5)) / 2)) + a4) - (1 : Int)) - (IntKind.wrap .i64 ((IntKind.wrap .u64 (a0 + a1)) / 2)))).2.1, ((el a2 ((((IntKind.wrap .i64 ((IntKind.wrap .u64 (a3 + a5)) / 2)) + a4) - (1 : Int)) - (IntKind.wrap .i64 ((IntKind.wrap .u64 (a0 + a1)) / 2)))).2.2)) ((el a2 (IntKind.wrap .i64 ((IntKind.wrap .u64 (a0 + a1)) / 2))).1, (el a2 (IntKind.wrap .i64 ((IntKind.wrap .u64 (a0 + a1)) / 2))).2.1, ((el a2 (IntKind.wrap .i64 ((IntKind.wrap .u64 (a0 + a1)) / 2))).2.2))).bind fun (a7 : Int) => (if a7 < (0 : Int) then (aaw fu a2 a3 a4 a5 a6 a0 (IntKind.wrap .i64 ((IntKind.wrap .u64 (a0 + a1)) / 2))) else (gd (ace ((IntKind.wrap .i64 ((IntKind.wrap .u64 (a0 + a1)) / 2)) + (1 : Int))) <| (aaw fu a2 a3 a4 a5 a6 ((IntKind.wrap .i64 ((IntKind.wrap .u64 (a0 + a1)) / 2)) + (1 : Int)) a1)))))))))) else some a0)
def aaq : Nat → (List (Str × Str × Bool)) → Int → Int → Int → Option (List (Str × Str × Bool))
  | 0, _, _, _, _ => none
  | fu + 1, a4, a0, a2, a1 => (((gd (ace (a2 - a0)) <| (if (a2 - a0) = (1 : Int) then (((aay fu a4 a0 fu a2 a1)).bind fun (a8 : Int) => (((abu fu a8 fu a4 a0)).bind fun (a9 : List (Str × Str × Bool)) => some (.inr a9))) else some (.inl ())))).bind fun (b0 : (Unit ⊕ (List (Str × Str × Bool)))) => Sum.elim (fun (c0 : Unit) => (((gd (ace (a1 - a2)) <| (if (a1 - a2) = (1 : Int) then (((aax fu a4 a2 fu a0 a2)).bind fun (b1 : Int) => (((abt fu b1 fu a4 a2)).bind fun (b2 : List (Str × Str × Bool)) => some (.inr b2))) else some (.inl ())))).bind fun (b3 : (Unit ⊕ (List (Str × Str × Bool)))) => Sum.elim (fun (c1 : Unit) => (gd (ace (a0 + a1)) <| (gd (ace ((IntKind.wrap .i64 ((IntKind.wrap .u64 (a0 + a1)) / 2)) + a2)) <| (((if (IntKind.wrap .i64 ((IntKind.wrap .u64 (a0 + a1)) / 2)) < a2 then (gd (ace (((IntKind.wrap .i64 ((IntKind.wrap .u64 (a0 + a1)) / 2)) + a2) - a1)) <| some (((IntKind.wrap .i64 ((IntKind.wrap .u64 (a0 + a1)) / 2)) + a2) - a1, IntKind.wrap .i64 ((IntKind.wrap .u64 (a0 + a1)) / 2))) else some (a0, a2))).bind fun (a5 : (Int × Int)) => (gd (ace (((IntKind.wrap .i64 ((IntKind.wrap .u64 (a0 + a1)) / 2)) + a2) - (1 : Int))) <| (((aaw fu a4 a0 a2 a1 fu a5.1 a5.2)).bind fun (a3 : Int) => (gd (ace (((IntKind.wrap .i64 ((IntKind.wrap .u64 (a0 + a1)) / 2)) + a2) - a3)) <| (((((if a3 < a2 then some (decide (a2 < (((IntKind.wrap .i64 ((IntKind.wrap .u64 (a0 + a1)) / 2)) + a2) - a3))) else some false)).bind fun (b4 : Bool) => (bif b4 then ((ado fu a4 a3 a2 (((IntKind.wrap .i64 ((IntKind.wrap .u64 (a0 + a1)) / 2)) + a2) - a3)).bind fun (b5 : List (Str × Str × Bool)) => some b5) else some a4))).bind fun (a6 : List (Str × Str × Bool)) => (((((if a0 < a3 then some (decide (a3 < (IntKind.wrap .i64 ((IntKind.wrap .u64 (a0 + a1)) / 2)))) else some false)).bind fun (b6 : Bool) => (bif b6 then ((aaq fu a6 a0 a3 (IntKind.wrap .i64 ((IntKind.wrap .u64 (a0 + a1)) / 2))).bind fun (b7 : List (Str × Str × Bool)) => some b7) else some a6))).bind fun (a7 : List (Str × Str × Bool)) => (((if (IntKind.wrap .i64 ((IntKind.wrap .u64 (a0 + a1)) / 2)) < (((IntKind.wrap .i64 ((IntKind.wrap .u64 (a0 + a1)) / 2)) + a2) - a3) then some (decide ((((IntKind.wrap .i64 ((IntKind.wrap .u64 (a0 + a1)) / 2)) + a2) - a3) < a1)) else some false)).bind fun (b8 : Bool) => (bif b8 then ((aaq fu a7 (IntKind.wrap .i64 ((IntKind.wrap .u64 (a0 + a1)) / 2)) (((IntKind.wrap .i64 ((IntKind.wrap .u64 (a0 + a1)) / 2)) + a2) - a3) a1).bind fun (b9 : List (Str × Str × Bool)) => some b9) else some a7))))))))))) (fun q => some q) b3)) (fun q => some q) b0)
def abz (fu : Nat) (a1 : Int) : Nat → (List (Str × Str × Bool)) → Int → Int → Option ((List (Str × Str × Bool)) × Int)
  | 0, _, _, _ => none
  | a4 + 1, a2, a3, a0 => (if a0 ≤ a1 then ((abr fu a2 a3 a0).bind fun (a5 : List (Str × Str × Bool)) => (gd (ace (a0 + (20 : Int))) <| (abz fu a1 a4 a5 a0 (a0 + (20 : Int))))) else some (a2, a3))
def aby (fu : Nat) (a3 : Int) (a0 : Int) : Nat → (List (Str × Str × Bool)) → Int → Int → Option ((List (Str × Str × Bool)) × Int)
  | 0, _, _, _ => none
  | a5 + 1, a4, a2, a1 => (if a1 ≤ a3 then (gd (ace (a2 + a0)) <| ((aaq fu a4 a2 (a2 + a0) a1).bind fun (a6 : List (Str × Str × Bool)) => (gd (ace ((2 : Int) * a0)) <| (gd (ace (a1 + ((2 : Int) * a0))) <| (aby fu a3 a0 a5 a6 a1 (a1 + ((2 : Int) * a0))))))) else some (a4, a2))
def abc (fu : Nat) (a1 : Int) : Nat → (List (Str × Str × Bool)) → Int → Option (List (Str × Str × Bool))
  | 0, _, _ => none
  | a3 + 1, a4, a0 => (if a0 < a1 then (gd (ace ((2 : Int) * a0)) <| (((aby fu a1 a0 fu a4 (0 : Int) ((2 : Int) * a0))).bind fun (a2 : ((List (Str × Str × Bool)) × Int)) => (gd (ace (a2.2 + a0)) <| (if (a2.2 + a0) < a1 then ((aaq fu a2.1 a2.2 (a2.2 + a0) a1).bind fun (a5 : List (Str × Str × Bool)) => (gd (ace (a0 * (2 : Int))) <| (abc fu a1 a3 a5 (a0 * (2 : Int))))) else (gd (ace (a0 * (2 : Int))) <| (abc fu a1 a3 a2.1 (a0 * (2 : Int)))))))) else some a4)
def adn (fu : Nat) (a2 : List (Str × Str × Bool)) (a0 : Int) : Option (List (Str × Str × Bool)) :=
  (((abz fu a0 fu a2 (0 : Int) (20 : Int))).bind fun (a1 : ((List (Str × Str × Bool)) × Int)) => ((abr fu a1.1 a1.2 a0).bind fun (a3 : List (Str × Str × Bool)) => (abc fu a0 fu a3 (20 : Int))))
def adj (fu : Nat) (a0 : List (Str × Str × Bool)) : Option (List (Str × Str × Bool)) :=
  ((adn fu a0 (a0.length : Int)).bind fun (y1 : List (Str × Str × Bool)) => some y1)
def aca (fu : Nat) (a0 : List (Str × Str × Bool)) : Option (List (Str × Str × Bool)) :=
  ((aev fu a0).bind fun (y1 : List (Str × Str × Bool)) => ((adj fu y1).bind fun (y9 : List (Str × Str × Bool)) => some y9))
def akm (fu : Nat) (a0 : List (Str × Str × Bool)) : Option (List (Str × Str × Bool)) :=
  ((aix fu a0).bind fun (y1 : List (Str × Str × Bool)) => ((aca fu a0).bind fun (y7 : List (Str × Str × Bool)) => some y7))
def afn (fu : Nat) (a1 : (Str × Str × Int × Str × (List (Str × Str × Bool)))) : Nat → (List (Str × Str × Bool)) → Int → Option (List (Str × Str × Bool))
  | 0, _, _ => none
  | a3 + 1, a2, a0 => (if a0 < (a1.2.2.2.2.length : Int) then (gd (0 ≤ a0 ∧ a0 < (a1.2.2.2.2.length : Int)) <| (gd (0 ≤ a0 ∧ a0 < (a1.2.2.2.2.length : Int)) <| (if ((el a1.2.2.2.2 a0).1) = ([98, 114, 97, 110, 99, 104] : Str) then (gd (ace (a0 + (1 : Int))) <| (afn fu a1 a3 a2 (a0 + (1 : Int)))) else (gd ((a2.length + ([((el a1.2.2.2.2 a0).1, (el a1.2.2.2.2 a0).2.1, ((el a1.2.2.2.2 a0).2.2))] : List (Str × Str × Bool)).length) * 40 ≤ 140737488355328) <| (gd (ace (a0 + (1 : Int))) <| (afn fu a1 a3 (a2 ++ ([((el a1.2.2.2.2 a0).1, (el a1.2.2.2.2 a0).2.1, ((el a1.2.2.2.2 a0).2.2))] : List (Str × Str × Bool))) (a0 + (1 : Int)))))))) else some a2)
def akz (fu : Nat) (a0 : (Str × Str × Int × Str × (List (Str × Str × Bool)))) : Option (Str × UInt8) :=
  ((age fu a0.2.1).bind fun (y4 : (Str × Bool)) => (((bif (!y4.2) then some true else ((aey fu a0.1).bind fun (a5 : Bool) => (bif (!a5) then some true else (if a0.2.2.1 < (0 : Int) then some true else some (decide ((65535 : Int) < a0.2.2.1))))))).bind fun (a6 : Bool) => (bif a6 then some (([] : Str), (2 : UInt8)) else (((afn fu a0 fu ([] : List (Str × Str × Bool)) (0 : Int))).bind fun (a2 : List (Str × Str × Bool)) => (((if a0.2.2.2.1 = ([] : Str) then some a2 else (gd ((a2.length + ([(([98, 114, 97, 110, 99, 104] : Str), a0.2.2.2.1, true)] : List (Str × Str × Bool)).length) * 40 ≤ 140737488355328) <| some (a2 ++ ([(([98, 114, 97, 110, 99, 104] : Str), a0.2.2.2.1, true)] : List (Str × Str × Bool)))))).bind fun (a7 : List (Str × Str × Bool)) => ((akm fu a7).bind fun (a8 : List (Str × Str × Bool)) => ((afp fu a8).bind fun (a3 : (Str × UInt8)) => (if a3.2 = (0 : UInt8) then (((if a0.2.2.1 = (0 : Int) then some y4.1 else (gd (ace a0.2.2.1) <| (gd (([58] : Str).length + (Lib.itoa a0.2.2.1).length ≤ 9223372036854775807) <| (gd (y4.1.length + (([58] : Str) ++ (Lib.itoa a0.2.2.1)).length ≤ 9223372036854775807) <| some (y4.1 ++ (([58] : Str) ++ (Lib.itoa a0.2.2.1)))))))).bind fun (a4 : Str) => ((acx fu a0.1).bind fun (a1 : Str) => (gd (([83, 73, 80, 47, 50, 46, 48, 47] : Str).length + a1.length ≤ 9223372036854775807) <| (gd ((([83, 73, 80, 47, 50, 46, 48, 47] : Str) ++ a1).length + ([32] : Str).length ≤ 9223372036854775807) <| (gd (((([83, 73, 80, 47, 50, 46, 48, 47] : Str) ++ a1) ++ ([32] : Str)).length + a4.length ≤ 9223372036854775807) <| (gd ((((([83, 73, 80, 47, 50, 46, 48, 47] : Str) ++ a1) ++ ([32] : Str)) ++ a4).length + a3.1.length ≤ 9223372036854775807) <| some ((((([83, 73, 80, 47, 50, 46, 48, 47] : Str) ++ a1) ++ ([32] : Str)) ++ a4) ++ a3.1, (0 : UInt8)))))))) else some (([] : Str), (2 : UInt8))))))))))
def agi (fu : Nat) (s_0 : Str) : Option (Int × Str × UInt8) :=
  (gd (s_0.length ≤ 1000000000 ∧ ([32, 9] : Str).length ≤ 1000 ∧ ([32, 9] : Str).all (fun b => decide (b.toNat < 128)) = true ∧ (8 < s_0.length ∨ ([32, 9] : Str).length ≤ 1 ∨ s_0.all (fun b => decide (b.toNat < 128)) = true)) <| (((if (Lib.indexAny s_0 ([32, 9] : Str)) < (0 : Int) then some (s_0.length : Int) else some (Lib.indexAny s_0 ([32, 9] : Str)))).bind fun (v9 : Int) => (gd (0 ≤ v9 ∧ v9 ≤ (s_0.length : Int)) <| ((agc fu (List.take (Int.toNat v9) s_0)).bind fun (a1 : (Int × UInt8)) => ((agd fu s_0 v9).bind fun (a0 : Int) => (gd (0 ≤ a0 ∧ a0 ≤ (s_0.length : Int)) <| some (a1.1, List.drop (Int.toNat a0) s_0, a1.2)))))))
end Go.Wk
set_option linter.unusedVariables false
set_option linter.unusedSimpArgs false
set_option maxRecDepth 20000
set_option maxHeartbeats 1000000
namespace Go.Wk
open Go.Px
def afm (fu : Nat) (a0 : Str) : Option (Int × Str × UInt8) :=
  ((aeq fu a0).bind fun (y1 : Str) => ((agi fu y1).bind fun (y6 : (Int × Str × UInt8)) => (if y6.2.2 = (0 : UInt8) then ((aey fu y6.2.1).bind fun (a1 : Bool) => (bif (!a1) then some ((0 : Int), ([] : Str), (5 : UInt8)) else some (y6.1, y6.2.1, (0 : UInt8)))) else some ((0 : Int), ([] : Str), y6.2.2))))
def ajh (fu : Nat) (a1 : Str) : Option (Int × Int × Str × UInt8) :=
  ((aeq fu a1).bind fun (y1 : Str) => ((agi fu y1).bind fun (y6 : (Int × Str × UInt8)) => (if y6.2.2 = (0 : UInt8) then ((afm fu y6.2.1).bind fun (a0 : (Int × Str × UInt8)) => (if a0.2.2 = (0 : UInt8) then some (y6.1, a0.1, a0.2.1, (0 : UInt8)) else some ((0 : Int), (0 : Int), ([] : Str), a0.2.2))) else some ((0 : Int), (0 : Int), ([] : Str), y6.2.2))))
def amf (fu : Nat) (a0 : Str) : Option (Int × UInt8) :=
  ((aeq fu a0).bind fun (y1 : Str) => ((agc fu y1).bind fun (y6 : (Int × UInt8)) => some (y6.1, y6.2)))
def anu (fu : Nat) (a3 : Str) : Option ((Str × (List (Str × Str × Bool))) × UInt8) :=
  ((aeq fu a3).bind fun (y4 : Str) => ((afu fu y4 (0 : Int)).bind fun (y9 : Int) => (if y9 = (0 : Int) then some ((([] : Str), ([] : List (Str × Str × Bool))), (5 : UInt8)) else (((((if y9 < (y4.length : Int) then (gd (0 ≤ y9 ∧ y9 < (y4.length : Int)) <| some (decide ((at_ y4 y9) = (47 : UInt8)))) else some false)).bind fun (a4 : Bool) => (bif a4 then (gd (ace (y9 + (1 : Int))) <| ((afu fu y4 (y9 + (1 : Int))).bind fun (a2 : Int) => (gd (ace (y9 + (1 : Int))) <| (if a2 = (y9 + (1 : Int)) then some (.inr ((([] : Str), ([] : List (Str × Str × Bool))), (5 : UInt8))) else some (.inl a2))))) else some (.inl y9)))).bind fun (a5 : (Int ⊕ ((Str × (List (Str × Str × Bool))) × UInt8))) => Sum.elim (fun (a0 : Int) => (gd (0 ≤ a0 ∧ a0 ≤ (y4.length : Int)) <| ((aii fu (List.drop (Int.toNat a0) y4)).bind fun (a1 : ((List (Str × Str × Bool)) × Int × UInt8)) => (if a1.2.2 = (0 : UInt8) then (gd (0 ≤ a0 ∧ a0 ≤ (y4.length : Int)) <| some ((List.take (Int.toNat a0) y4, a1.1), (0 : UInt8))) else some ((([] : Str), ([] : List (Str × Str × Bool))), a1.2.2))))) (fun q => some q) a5))))
def ako (fu : Nat) (a0 : (Str × (List (Str × Str × Bool)))) : Option (Str × UInt8) :=
  (gd (a0.1.length ≤ 1000000000) <| ((((aey fu ((Lib.cut a0.1 ([47] : Str)).1)).bind fun (a2 : Bool) => (bif (!a2) then some true else (bif ((Lib.cut a0.1 ([47] : Str)).2.2) then ((aey fu ((Lib.cut a0.1 ([47] : Str)).2.1)).bind fun (a3 : Bool) => some (!a3)) else some false)))).bind fun (a4 : Bool) => (bif a4 then some (([] : Str), (2 : UInt8)) else ((akm fu a0.2).bind fun (a5 : List (Str × Str × Bool)) => ((afp fu a5).bind fun (a1 : (Str × UInt8)) => (if a1.2 = (0 : UInt8) then (gd (a0.1.length + a1.1.length ≤ 9223372036854775807) <| some (a0.1 ++ a1.1, (0 : UInt8))) else some (([] : Str), (2 : UInt8))))))))
def alz (fu : Nat) (a8 : Str) (a1 : Str) : Option (Str × UInt8) :=
  ((akn fu a8).bind fun (a2 : Int) => (if a2 = (1 : Int) then (((if a8 = ([67, 111, 110, 116, 97, 99, 116] : Str) then ((aeq fu a1).bind fun (b3 : Str) => some (decide (b3 = ([42] : Str)))) else some false)).bind fun (b4 : Bool) => (bif b4 then some (([42] : Str), (0 : UInt8)) else ((aln fu a1).bind fun (a5 : ((Str × (Str × Str × Str × Int × (List (Str × Str × Bool)) × (List (Str × Str × Bool))) × (List (Str × Str × Bool))) × UInt8)) => (if a5.2 = (0 : UInt8) then ((aim fu a5.1).bind fun (a9 : (Str × UInt8)) => some (a9.1, a9.2)) else some (([] : Str), a5.2))))) else (if a2 = (2 : Int) then ((amr fu a1).bind fun (a6 : ((Str × Str × Int × Str × (List (Str × Str × Bool))) × UInt8)) => (if a6.2 = (0 : UInt8) then ((akz fu a6.1).bind fun (b0 : (Str × UInt8)) => some (b0.1, b0.2)) else some (([] : Str), a6.2))) else (if a2 = (3 : Int) then ((afm fu a1).bind fun (a3 : (Int × Str × UInt8)) => (if a3.2.2 = (0 : UInt8) then (gd (ace a3.1) <| (gd ((Lib.itoa a3.1).length + ([32] : Str).length ≤ 9223372036854775807) <| (gd (((Lib.itoa a3.1) ++ ([32] : Str)).length + a3.2.1.length ≤ 9223372036854775807) <| some (((Lib.itoa a3.1) ++ ([32] : Str)) ++ a3.2.1, (0 : UInt8))))) else some (([] : Str), a3.2.2))) else (if a2 = (4 : Int) then ((ajh fu a1).bind fun (a0 : (Int × Int × Str × UInt8)) => (if a0.2.2.2 = (0 : UInt8) then (gd (ace a0.1) <| (gd ((Lib.itoa a0.1).length + ([32] : Str).length ≤ 9223372036854775807) <| (gd (ace a0.2.1) <| (gd (((Lib.itoa a0.1) ++ ([32] : Str)).length + (Lib.itoa a0.2.1).length ≤ 9223372036854775807) <| (gd ((((Lib.itoa a0.1) ++ ([32] : Str)) ++ (Lib.itoa a0.2.1)).length + ([32] : Str).length ≤ 9223372036854775807) <| (gd (((((Lib.itoa a0.1) ++ ([32] : Str)) ++ (Lib.itoa a0.2.1)) ++ ([32] : Str)).length + a0.2.2.1.length ≤ 9223372036854775807) <| some (((((Lib.itoa a0.1) ++ ([32] : Str)) ++ (Lib.itoa a0.2.1)) ++ ([32] : Str)) ++ a0.2.2.1, (0 : UInt8)))))))) else some (([] : Str), a0.2.2.2))) else (if a2 = (5 : Int) then ((amf fu a1).bind fun (a4 : (Int × UInt8)) => (if a4.2 = (0 : UInt8) then (gd (ace a4.1) <| some (Lib.itoa a4.1, (0 : UInt8))) else some (([] : Str), a4.2))) else (((if a2 = (6 : Int) then some (decide (a2 = (6 : Int))) else some (decide (a2 = (7 : Int))))).bind fun (b5 : Bool) => (bif b5 then ((anu fu a1).bind fun (a7 : ((Str × (List (Str × Str × Bool))) × UInt8)) => (if a7.2 = (0 : UInt8) then ((ako fu a7.1).bind fun (b1 : (Str × UInt8)) => some (b1.1, b1.2)) else some (([] : Str), a7.2))) else ((aeq fu a1).bind fun (b2 : Str) => ((akl fu b2).bind fun (b6 : (Str × UInt8)) => (if b6.2 = (0 : UInt8) then some (b2, (0 : UInt8)) else some (([] : Str), (5 : UInt8)))))))))))))
def afl (fu : Nat) (s_0 : Str) (a1 : Int) (a0 : Int) : Option (Int × Str) :=
  ((agd fu s_0 a1).bind fun (y4 : Int) => (gd (0 ≤ (min y4 a0) ∧ (min y4 a0) ≤ a0 ∧ a0 ≤ (s_0.length : Int)) <| (gd ((sub s_0 (min y4 a0) a0).length ≤ 1000000000) <| gd (([32, 9] : Str).length ≤ 1000 ∧ ([32, 9] : Str).all (fun b => decide (b.toNat < 128)) = true) <| some (min y4 a0, Lib.trimRightS (sub s_0 (min y4 a0) a0) ([32, 9] : Str)))))
def acs (fu : Nat) (s_0 : Str) (a2 : UInt8) : Nat → (List (Int × Str)) → Int → Int → Option (((List (Int × Str)) × Int) ⊕ ((List (Int × Str)) × Int × UInt8))
  | 0, _, _, _ => none
  | a4 + 1, a1, a3, a0 => (if a0 < (s_0.length : Int) then (gd (0 ≤ a0 ∧ a0 < (s_0.length : Int)) <| (if (at_ s_0 a0) = (34 : UInt8) then ((aiy fu s_0 a0).bind fun (a5 : (Str × Int × UInt8)) => (if a5.2.2 = (0 : UInt8) then (acs fu s_0 a2 a4 a1 a3 a5.2.1) else some (.inr (([] : List (Int × Str)), a5.2.1, a5.2.2)))) else (if (at_ s_0 a0) = (60 : UInt8) then (gd (0 ≤ a0 ∧ a0 ≤ (s_0.length : Int)) <| (if (ixb (· == (62 : UInt8)) (List.drop (Int.toNat a0) s_0)) < (0 : Int) then some (.inr (([] : List (Int × Str)), (s_0.length : Int), (6 : UInt8))) else (gd (ace ((ixb (· == (62 : UInt8)) (List.drop (Int.toNat a0) s_0)) + (1 : Int))) <| (gd (ace (a0 + ((ixb (· == (62 : UInt8)) (List.drop (Int.toNat a0) s_0)) + (1 : Int)))) <| (acs fu s_0 a2 a4 a1 a3 (a0 + ((ixb (· == (62 : UInt8)) (List.drop (Int.toNat a0) s_0)) + (1 : Int)))))))) else (if (at_ s_0 a0) = (62 : UInt8) then some (.inr (([] : List (Int × Str)), a0, (5 : UInt8))) else (if (at_ s_0 a0) = a2 then ((afl fu s_0 a3 a0).bind fun (a6 : (Int × Str)) => (gd ((a1.length + ([a6] : List (Int × Str)).length) * 24 ≤ 140737488355328) <| (gd (ace (a0 + (1 : Int))) <| (acs fu s_0 a2 a4 (a1 ++ ([a6] : List (Int × Str))) (a0 + (1 : Int)) (a0 + (1 : Int)))))) else (gd (ace (a0 + (1 : Int))) <| (acs fu s_0 a2 a4 a1 a3 (a0 + (1 : Int))))))))) else some (.inl (a1, a3)))
def aly (fu : Nat) (s_0 : Str) (a0 : UInt8) : Option ((List (Int × Str)) × Int × UInt8) :=
  ((((afr fu a0).bind fun (a3 : Bool) => (bif a3 then some true else (if a0 = (34 : UInt8) then some true else (if a0 = (60 : UInt8) then some true else some (decide (a0 = (62 : UInt8)))))))).bind fun (a4 : Bool) => (bif a4 then some (([] : List (Int × Str)), (0 : Int), (2 : UInt8)) else (((acs fu s_0 a0 fu ([] : List (Int × Str)) (0 : Int) (0 : Int))).bind fun (a5 : (((List (Int × Str)) × Int) ⊕ ((List (Int × Str)) × Int × UInt8))) => Sum.elim (fun (a1 : ((List (Int × Str)) × Int)) => ((afl fu s_0 a1.2 (s_0.length : Int)).bind fun (a2 : (Int × Str)) => (gd ((a1.1.length + ([a2] : List (Int × Str)).length) * 24 ≤ 140737488355328) <| some (a1.1 ++ ([a2] : List (Int × Str)), (0 : Int), (0 : UInt8))))) (fun q => some q) a5)))
end Go.Wk
set_option linter.unusedVariables false
set_option linter.unusedSimpArgs false
set_option maxRecDepth 20000
set_option maxHeartbeats 1000000
namespace Go.Wk
open Go.Px
def afk (fu : Nat) (y1 : ((List (Int × Str)) × Int × UInt8)) : Nat → (List Str) → Int → Option ((List Str) ⊕ ((List Str) × UInt8))
  | 0, _, _ => none
  | a2 + 1, a1, a0 => (if a0 < (y1.1.length : Int) then (gd (0 ≤ a0 ∧ a0 < (y1.1.length : Int)) <| (gd (0 ≤ a0 ∧ a0 < (y1.1.length : Int)) <| (if ((el y1.1 a0).2) = ([] : Str) then some (.inr (([] : List Str), (5 : UInt8))) else (gd ((a1.length + ([(el y1.1 a0).2] : List Str).length) * 16 ≤ 140737488355328) <| (gd (ace (a0 + (1 : Int))) <| (afk fu y1 a2 (a1 ++ ([(el y1.1 a0).2] : List Str)) (a0 + (1 : Int)))))))) else some (.inl a1))
def ahy (fu : Nat) (a0 : Str) : Option ((List Str) × UInt8) :=
  ((aly fu a0 (44 : UInt8)).bind fun (y1 : ((List (Int × Str)) × Int × UInt8)) => (if y1.2.2 = (0 : UInt8) then (((afk fu y1 fu ([] : List Str) (0 : Int))).bind fun (a1 : ((List Str) ⊕ ((List Str) × UInt8))) => Sum.elim (fun (a2 : List Str) => some (a2, (0 : UInt8))) (fun q => some q) a1) else some (([] : List Str), y1.2.2)))
def ajg (fu : Nat) (y1 : (Str × UInt8)) (a3 : ((List Str) × UInt8)) : Nat → (List Str) → Int → Option ((List Str) ⊕ (Str × UInt8))
  | 0, _, _ => none
  | a4 + 1, a1, a0 => (if a0 < (a3.1.length : Int) then (gd (0 ≤ a0 ∧ a0 < (a1.length : Int)) <| (gd (0 ≤ a0 ∧ a0 < (a1.length : Int)) <| ((alz fu y1.1 (el a1 a0)).bind fun (a2 : (Str × UInt8)) => (gd (0 ≤ a0 ∧ a0 < (a1.length : Int)) <| (gd (0 ≤ a0 ∧ a0 < (a1.length : Int)) <| (if a2.2 = (0 : UInt8) then (gd (ace (a0 + (1 : Int))) <| (ajg fu y1 a3 a4 (List.set a1 (Int.toNat a0) a2.1) (a0 + (1 : Int)))) else some (.inr (([] : Str), a2.2)))))))) else some (.inl a1))
def ant (fu : Nat) (a4 : Str) (a2 : Str) : Option (Str × UInt8) :=
  ((alh fu a4).bind fun (y1 : (Str × UInt8)) => (if y1.2 = (0 : UInt8) then ((ans fu y1.1).bind fun (y7 : Bool) => (bif (!y7) then ((alz fu y1.1 a2).bind fun (a3 : (Str × UInt8)) => some (a3.1, a3.2)) else ((ahy fu a2).bind fun (a0 : ((List Str) × UInt8)) => (if a0.2 = (0 : UInt8) then (((ajg fu y1 a0 fu a0.1 (0 : Int))).bind fun (a5 : ((List Str) ⊕ (Str × UInt8))) => Sum.elim (fun (a1 : List Str) => (gd (a1.length ≤ 1000000000 ∧ (Lib.join a1 ([44, 32] : Str)).length ≤ 100000000000) <| some (Lib.join a1 ([44, 32] : Str), (0 : UInt8)))) (fun q => some q) a5) else some (([] : Str), a0.2))))) else some (([] : Str), (5 : UInt8))))
def ajf (fu : Nat) : Option Bool :=
  ((alh fu ([67, 65, 76, 76, 45, 105, 100] : Str)).bind fun (y1 : (Str × UInt8)) => ((ant fu ([109] : Str) ([66, 111, 98, 60, 115, 105, 112, 58, 97, 64, 66, 62, 32, 44, 32, 60, 115, 105, 112, 58, 99, 59, 100, 62] : Str)).bind fun (y6 : (Str × UInt8)) => ((amr fu ([115, 105, 112, 47, 50, 46, 48, 47, 117, 100, 112, 32, 104, 58, 53, 48, 54, 48, 59, 98, 114, 97, 110, 99, 104, 61, 122, 57] : Str)).bind fun (a0 : ((Str × Str × Int × Str × (List (Str × Str × Bool))) × UInt8)) => ((afm fu ([48, 48, 55, 32, 73, 78, 86, 73, 84, 69] : Str)).bind fun (a1 : (Int × Str × UInt8)) => (((if y1.2 = (0 : UInt8) then (if y1.1 = ([67, 97, 108, 108, 45, 73, 68] : Str) then (if y6.2 = (0 : UInt8) then (if y6.1 = ([34, 66, 111, 98, 34, 32, 60, 115, 105, 112, 58, 97, 64, 98, 62, 44, 32, 60, 115, 105, 112, 58, 99, 59, 100, 62] : Str) then (if a0.2 = (0 : UInt8) then (if a0.1.1 = ([85, 68, 80] : Str) then (if a0.1.2.1 = ([104] : Str) then (if a0.1.2.2.1 = (5060 : Int) then (if a0.1.2.2.2.1 = ([122, 57] : Str) then (if a1.1 = (7 : Int) then (if a1.2.1 = ([73, 78, 86, 73, 84, 69] : Str) then some (decide (a1.2.2 = (0 : UInt8))) else some false) else some false) else some false) else some false) else some false) else some false) else some false) else some false) else some false) else some false) else some false)).bind fun (a2 : Bool) => some a2)))))
end Go.Wk
set_option linter.unusedVariables false
set_option linter.unusedSimpArgs false
set_option maxRecDepth 20000
set_option maxHeartbeats 1000000
namespace Go.Wk
open Go.Px
def ads : Nat → Int → Option Str
  | 0, _ => none
  | fu + 1, a0 => (if a0 < (10 : Int) then (gd (ace (a0 + (1 : Int))) <| (gd (0 ≤ a0 ∧ a0 ≤ (a0 + (1 : Int)) ∧ (a0 + (1 : Int)) ≤ (([48, 49, 50, 51, 52, 53, 54, 55, 56, 57] : Str).length : Int)) <| some (sub ([48, 49, 50, 51, 52, 53, 54, 55, 56, 57] : Str) a0 (a0 + (1 : Int))))) else (gd (0 ≤ a0 ∧ 0 < (10 : Int) ∧ ace (a0)) <| ((ads fu (a0 / (10 : Int))).bind fun (y5 : Str) => (gd (0 ≤ a0 ∧ 0 < (10 : Int) ∧ ace (a0)) <| (gd (0 ≤ a0 ∧ 0 < (10 : Int) ∧ ace (a0)) <| (gd (ace ((a0 % (10 : Int)) + (1 : Int))) <| (gd (0 ≤ (a0 % (10 : Int)) ∧ (a0 % (10 : Int)) ≤ ((a0 % (10 : Int)) + (1 : Int)) ∧ ((a0 % (10 : Int)) + (1 : Int)) ≤ (([48, 49, 50, 51, 52, 53, 54, 55, 56, 57] : Str).length : Int)) <| (gd (y5.length + (sub ([48, 49, 50, 51, 52, 53, 54, 55, 56, 57] : Str) (a0 % (10 : Int)) ((a0 % (10 : Int)) + (1 : Int))).length ≤ 9223372036854775807) <| some (y5 ++ (sub ([48, 49, 50, 51, 52, 53, 54, 55, 56, 57] : Str) (a0 % (10 : Int)) ((a0 % (10 : Int)) + (1 : Int))))))))))))
def acn (fu : Nat) (a0 : UInt8) : Nat → Str → Int → Option Str
  | 0, _, _ => none
  | a3 + 1, a1, a2 => (gd (0 ≤ (a0.toNat : Int) ∧ 0 < (4 : Int) ∧ ace ((a0.toNat : Int))) <| (if a2 < ((a0.toNat : Int) % (4 : Int)) then (gd (a1.length + ([32] : Str).length ≤ 9223372036854775807) <| (gd (ace (a2 + (1 : Int))) <| (acn fu a0 a3 (a1 ++ ([32] : Str)) (a2 + (1 : Int))))) else some a1))
def acm (fu : Nat) (a2 : List Int) (a1 : Str) : Nat → Str → Int → Option Str
  | 0, _, _ => none
  | a6 + 1, a3, a0 => (if a0 < (a2.length : Int) then (((if (0 : Int) < a0 then (gd (a3.length + ([44] : Str).length ≤ 9223372036854775807) <| some (a3 ++ ([44] : Str))) else some a3)).bind fun (a4 : Str) => (gd (a4.length + a1.length ≤ 9223372036854775807) <| (gd (0 ≤ a0 ∧ a0 < (a2.length : Int)) <| (gd (0 ≤ a0 ∧ a0 < (a2.length : Int)) <| ((ads fu (IntKind.wrap .i64 (el a2 a0))).bind fun (a5 : Str) => (gd ((a4 ++ a1).length + a5.length ≤ 9223372036854775807) <| (gd (((a4 ++ a1) ++ a5).length + a1.length ≤ 9223372036854775807) <| (gd (ace (a0 + (1 : Int))) <| (acm fu a2 a1 a6 (((a4 ++ a1) ++ a5) ++ a1) (a0 + (1 : Int))))))))))) else some a3)
def acl (fu : Nat) (a1 : List Int) (a2 : ((List Str) × UInt8)) : Nat → Int → Option (Unit ⊕ Bool)
  | 0, _ => none
  | a3 + 1, a0 => (if a0 < (a1.length : Int) then (gd (0 ≤ a0 ∧ a0 < (a2.1.length : Int)) <| (gd (0 ≤ a0 ∧ a0 < (a2.1.length : Int)) <| (gd (0 ≤ a0 ∧ a0 < (a1.length : Int)) <| (gd (0 ≤ a0 ∧ a0 < (a1.length : Int)) <| ((ads fu (IntKind.wrap .i64 (el a1 a0))).bind fun (a4 : Str) => (if (el a2.1 a0) = a4 then (gd (ace (a0 + (1 : Int))) <| (acl fu a1 a2 a3 (a0 + (1 : Int)))) else some (.inr false))))))) else some (.inl ()))
def afg (fu : Nat) (a0 : List Int) (a8 : UInt8) : Option Bool :=
  (if (100 : Int) < (a0.length : Int) then ((ajf fu).bind fun (y2 : Bool) => some y2) else (((acn fu a8 fu ([] : Str) (0 : Int))).bind fun (a1 : Str) => (((acm fu a0 a1 fu ([] : Str) (0 : Int))).bind fun (a9 : Str) => ((ahy fu a9).bind fun (a2 : ((List Str) × UInt8)) => (if (a0.length : Int) = (0 : Int) then (((if a2.2 = (5 : UInt8) then (if (a2.1.length : Int) = (0 : Int) then ((ajf fu).bind fun (b0 : Bool) => some b0) else some false) else some false)).bind fun (b1 : Bool) => some b1) else (((if a2.2 = (0 : UInt8) then some (!decide ((a2.1.length : Int) = (a0.length : Int))) else some true)).bind fun (b2 : Bool) => (bif b2 then some false else (((acl fu a0 a2 fu (0 : Int))).bind fun (b3 : (Unit ⊕ Bool)) => Sum.elim (fun (b6 : Unit) => (gd (0 ≤ (0 : Int) ∧ (0 : Int) < (a0.length : Int)) <| (gd (0 ≤ (0 : Int) ∧ (0 : Int) < (a0.length : Int)) <| (gd (ace ((a0.length : Int) - (1 : Int))) <| (gd (0 ≤ ((a0.length : Int) - (1 : Int)) ∧ ((a0.length : Int) - (1 : Int)) < (a0.length : Int)) <| (gd (0 ≤ ((a0.length : Int) - (1 : Int)) ∧ ((a0.length : Int) - (1 : Int)) < (a0.length : Int)) <| (gd (a1.length + ([48, 48] : Str).length ≤ 9223372036854775807) <| ((ads fu (IntKind.wrap .i64 (el a0 (0 : Int)))).bind fun (a3 : Str) => (gd ((a1 ++ ([48, 48] : Str)).length + a3.length ≤ 9223372036854775807) <| (gd (((a1 ++ ([48, 48] : Str)) ++ a3).length + ([32, 9] : Str).length ≤ 9223372036854775807) <| (gd ((((a1 ++ ([48, 48] : Str)) ++ a3) ++ ([32, 9] : Str)).length + a1.length ≤ 9223372036854775807) <| (gd (((((a1 ++ ([48, 48] : Str)) ++ a3) ++ ([32, 9] : Str)) ++ a1).length + ([65, 67, 75] : Str).length ≤ 9223372036854775807) <| ((afm fu (((((a1 ++ ([48, 48] : Str)) ++ a3) ++ ([32, 9] : Str)) ++ a1) ++ ([65, 67, 75] : Str))).bind fun (a6 : (Int × Str × UInt8)) => ((ads fu (IntKind.wrap .i64 (el a0 (0 : Int)))).bind fun (a4 : Str) => (gd (a4.length + ([32] : Str).length ≤ 9223372036854775807) <| (gd ((a4 ++ ([32] : Str)).length + a1.length ≤ 9223372036854775807) <| ((ads fu (IntKind.wrap .i64 (el a0 ((a0.length : Int) - (1 : Int))))).bind fun (a7 : Str) => (gd (((a4 ++ ([32] : Str)) ++ a1).length + a7.length ≤ 9223372036854775807) <| (gd ((((a4 ++ ([32] : Str)) ++ a1) ++ a7).length + ([32, 80, 82, 65, 67, 75] : Str).length ≤ 9223372036854775807) <| ((ajh fu ((((a4 ++ ([32] : Str)) ++ a1) ++ a7) ++ ([32, 80, 82, 65, 67, 75] : Str))).bind fun (a5 : (Int × Int × Str × UInt8)) => (((if a6.2.2 = (0 : UInt8) then (if a6.1 = (IntKind.wrap .i64 (el a0 (0 : Int))) then (if a6.2.1 = ([65, 67, 75] : Str) then (if a5.2.2.2 = (0 : UInt8) then (if a5.1 = (IntKind.wrap .i64 (el a0 (0 : Int))) then (if a5.2.1 = (IntKind.wrap .i64 (el a0 ((a0.length : Int) - (1 : Int)))) then (if a5.2.2.1 = ([80, 82, 65, 67, 75] : Str) then ((ajf fu).bind fun (b4 : Bool) => some b4) else some false) else some false) else some false) else some false) else some false) else some false) else some false)).bind fun (b5 : Bool) => some b5))))))))))))))))))))) (fun q => some q) b3))))))))
end Go.Wk
set_option linter.unusedVariables false
set_option linter.unusedSimpArgs false
set_option maxRecDepth 20000
set_option maxHeartbeats 1000000
namespace Go.Proofs
open Go.Wk Go.Px
open Go.Value renaming slice → Vs, int → Vi, bool → Vb, pointer → Vp
theorem ent54 : Go.Wk.Enters Tryz.prog 54 := ⟨Tryz.f54, _, Tryz.func54, rfl, by kernel_rfl⟩
theorem ent88 : Go.Wk.Enters Tryz.prog 88 := ⟨Tryz.f88, _, Tryz.func88, rfl, by kernel_rfl⟩
theorem ent102 : Go.Wk.Enters Tryz.prog 102 := ⟨Tryz.f102, _, Tryz.func102, rfl, by kernel_rfl⟩
theorem ent103 : Go.Wk.Enters Tryz.prog 103 := ⟨Tryz.f103, _, Tryz.func103, rfl, by kernel_rfl⟩
theorem K_L_lexis_char_token {fu : Nat} {a2 : UInt8} {w : World} {r : Bool} (hr : akk fu a2 = some r) (hG : Gl w) : CR Tryz.prog 103 [(bt a2)] w fun v w' => v = (Vb r) ∧ Hp w [] [] w' := by
  have hH : Hp w [] [] w := Hp.refl w
  refine enter (k := 34) Tryz.func103 rfl rfl (Nat.le_of_ble_eq_true rfl) ?_
  unfold akk at hr
  refine sr (wp 1 (nq (bi hr fun a7 a0 hr => cut1 hH a7 [0, 2] (fun a8 => []) ?_ ?_)))
  refine ce (cs (bi a0 fun a9 a3 a0 => agq hH [0, 2, 3] [(3, (Vb a9))] ?_ ?_))
  refine cr (wp 1 (amq a2 (97 : UInt8) (by kernel_rfl) (by kernel_rfl) (wd a3 (fun b0 a3 => ?_) (fun b0 a3 => ?_))))
  refine wp 1 (gy 6 (amp a2 (122 : UInt8) (by kernel_rfl) (by kernel_rfl) (wp 2 (wl (ql ?_)))))
  obtain rfl := oi a3
  exact je hH.kp
  refine wp 4 (wl (ql ?_))
  obtain rfl := oi a3
  exact je hH.kp
  intro d8 G a4
  refine cb a0 (fun b1 a0 => ?_) (fun b1 a0 => ?_)
  refine ck (qn (cb a0 (fun b2 a0 => ?_) (fun b2 a0 => ?_)))
  refine sr (wp 1 (nq (ct (bt_ (acp ?_)))))
  obtain rfl := oi a0
  obtain rfl := oi hr
  exact rv a4.kp
  refine ck (bn (ql ?_))
  obtain rfl := oi a0
  exact je1 rfl a4.kp
  refine bi a0 fun b3 a5 a0 => agq a4 [0, 2, 3] [(3, (Vb b3))] ?_ ?_
  refine cr (wp 1 (amq a2 (65 : UInt8) (by kernel_rfl) (by kernel_rfl) (wd a5 (fun b4 a5 => ?_) (fun b4 a5 => ?_))))
  refine wp 1 (gy 12 (amp a2 (90 : UInt8) (by kernel_rfl) (by kernel_rfl) (wp 2 (wl (ql ?_)))))
  obtain rfl := oi a5
  exact je a4.kp
  refine wp 4 (wl (ql ?_))
  obtain rfl := oi a5
  exact je a4.kp
  intro d9 G a6
  refine cb a0 (fun b5 a0 => ?_) (fun b5 a0 => ?_)
  refine ck (qn (cb a0 (fun b6 a0 => ?_) (fun b6 a0 => ?_)))
  refine sr (wp 1 (nq (ct (bt_ (acp ?_)))))
  obtain rfl := oi a0
  obtain rfl := oi hr
  exact rv a6.kp
  refine ck (bn (ql ?_))
  obtain rfl := oi a0
  exact je1 rfl a6.kp
  refine cr (wp 1 (amq a2 (48 : UInt8) (by kernel_rfl) (by kernel_rfl) (wd a0 (fun b7 a0 => ?_) (fun b7 a0 => ?_))))
  refine wp 1 (gy 18 (amp a2 (57 : UInt8) (by kernel_rfl) (by kernel_rfl) (wp 2 (nq (cd a0 (fun b8 a0 => ?_) (fun b8 a0 => ?_))))))
  refine sr (wp 1 (nq (ct (bt_ (acp ?_)))))
  obtain rfl := oi a0
  obtain rfl := oi hr
  exact rv a6.kp
  refine ck (bn (ql ?_))
  obtain rfl := oi a0
  exact je1 rfl a6.kp
  refine wp 4 (nq (c_false (by kernel_rfl) (ck (bn (ql ?_)))))
  obtain rfl := oi a0
  exact je1 rfl a6.kp
  rintro a8 e0 G a1 rfl
  refine cs (sr (wp 1 (nq (ce (cs (sr ?_))))))
  refine ack a2 (45 : UInt8) (by kernel_rfl) (by kernel_rfl) (wp 1 (nq (cd hr (fun b9 hr => ?_) (fun b9 hr => ?_))))
  refine ck (qn (cd hr (fun c0 hr => ?_) (fun c0 hr => ?_)))
  refine sr (wp 1 (nq (ct (bt_ (st ?_)))))
  obtain rfl := oi hr
  exact rv a1.kp
  refine ck (bn (qn (sr (wp 1 (nq (ct ?_))))))
  obtain rfl := oi hr
  exact rv a1.kp
  refine sr (ack a2 (46 : UInt8) (by kernel_rfl) (by kernel_rfl) (wp 1 (nq (cd hr (fun c1 hr => ?_) (fun c1 hr => ?_)))))
  refine ck (qn (cd hr (fun c2 hr => ?_) (fun c2 hr => ?_)))
  refine sr (wp 1 (nq (ct (bt_ (st ?_)))))
  obtain rfl := oi hr
  exact rv a1.kp
  refine ck (bn (qn (sr (wp 1 (nq (ct ?_))))))
  obtain rfl := oi hr
  exact rv a1.kp
  refine sr (ack a2 (33 : UInt8) (by kernel_rfl) (by kernel_rfl) (wp 1 (nq (cd hr (fun c3 hr => ?_) (fun c3 hr => ?_)))))
  refine ck (qn (cd hr (fun c4 hr => ?_) (fun c4 hr => ?_)))
  refine sr (wp 1 (nq (ct (bt_ (st ?_)))))
  obtain rfl := oi hr
  exact rv a1.kp
  refine ck (bn (qn (sr (wp 1 (nq (ct ?_))))))
  obtain rfl := oi hr
  exact rv a1.kp
  refine sr (ack a2 (37 : UInt8) (by kernel_rfl) (by kernel_rfl) (wp 1 (nq (cd hr (fun c5 hr => ?_) (fun c5 hr => ?_)))))
  refine ck (qn (cd hr (fun c6 hr => ?_) (fun c6 hr => ?_)))
  refine sr (wp 1 (nq (ct (bt_ (st ?_)))))
  obtain rfl := oi hr
  exact rv a1.kp
  refine ck (bn (qn (sr (wp 1 (nq (ct ?_))))))
  obtain rfl := oi hr
  exact rv a1.kp
  refine sr (ack a2 (42 : UInt8) (by kernel_rfl) (by kernel_rfl) (wp 1 (nq (cd hr (fun c7 hr => ?_) (fun c7 hr => ?_)))))
  refine ck (qn (cd hr (fun c8 hr => ?_) (fun c8 hr => ?_)))
  refine sr (wp 1 (nq (ct (bt_ (st ?_)))))
  obtain rfl := oi hr
  exact rv a1.kp
  refine ck (bn (qn (sr (wp 1 (nq (ct ?_))))))
  obtain rfl := oi hr
  exact rv a1.kp
  refine sr (ack a2 (95 : UInt8) (by kernel_rfl) (by kernel_rfl) (wp 1 (nq (cd hr (fun c9 hr => ?_) (fun c9 hr => ?_)))))
  refine ck (qn (cd hr (fun d0 hr => ?_) (fun d0 hr => ?_)))
  refine sr (wp 1 (nq (ct (bt_ (st ?_)))))
  obtain rfl := oi hr
  exact rv a1.kp
  refine ck (bn (qn (sr (wp 1 (nq (ct ?_))))))
  obtain rfl := oi hr
  exact rv a1.kp
  refine sr (ack a2 (43 : UInt8) (by kernel_rfl) (by kernel_rfl) (wp 1 (nq (cd hr (fun d1 hr => ?_) (fun d1 hr => ?_)))))
  refine ck (qn (cd hr (fun d2 hr => ?_) (fun d2 hr => ?_)))
  refine sr (wp 1 (nq (ct (bt_ (st ?_)))))
  obtain rfl := oi hr
  exact rv a1.kp
  refine ck (bn (qn (sr (wp 1 (nq (ct ?_))))))
  obtain rfl := oi hr
  exact rv a1.kp
  refine sr (ack a2 (39 : UInt8) (by kernel_rfl) (by kernel_rfl) (wp 1 (nq (cd hr (fun d3 hr => ?_) (fun d3 hr => ?_)))))
  refine ck (qn (cd hr (fun d4 hr => ?_) (fun d4 hr => ?_)))
  refine sr (wp 1 (nq (ct (bt_ (st ?_)))))
  obtain rfl := oi hr
  exact rv a1.kp
  refine ck (bn (qn (sr (wp 1 (nq (ct ?_))))))
  obtain rfl := oi hr
  exact rv a1.kp
  refine sr (ack a2 (126 : UInt8) (by kernel_rfl) (by kernel_rfl) (wp 1 (nq (cd hr (fun d5 hr => ?_) (fun d5 hr => ?_)))))
  refine ck (qn (cd hr (fun d6 hr => ?_) (fun d6 hr => ?_)))
  refine sr (wp 1 (nq (ct (bt_ (st ?_)))))
  obtain rfl := oi hr
  exact rv a1.kp
  refine ck (bn (qn (sr (wp 1 (nq (ct ?_))))))
  obtain rfl := oi hr
  exact rv a1.kp
  refine cr (ack a2 (96 : UInt8) (by kernel_rfl) (by kernel_rfl) (wp 1 (nq (cd hr (fun d7 hr => ?_) (fun d7 hr => ?_)))))
  refine sr (wp 1 (nq (ct (bt_ (st ?_)))))
  obtain rfl := oi hr
  exact rv a1.kp
  refine ck (bn (qn (sr (wp 1 (nq (ct ?_))))))
  obtain rfl := oi hr
  exact rv a1.kp
theorem alc {fu : Nat} {s_0 : Str} {a3 : Int} {w : World} {r : Int} (hr : aft fu s_0 a3 = some r) (hG : Gl w) : CR Tryz.prog 102 [(str s_0), (Vi .i64 a3), (Value.func (.func 103) #[] #[])] w fun v w' => v = (Vi .i64 r) ∧ Hp w [] [] w' := by
  have hH : Hp w [] [] w := Hp.refl w
  refine enter (k := 26) Tryz.func102 rfl rfl (Nat.le_of_ble_eq_true rfl) ?_
  unfold aft at hr
  refine sr (wp 1 (nq (sr (wp 1 (w_max .i64 a3 (0 : Int) (by kernel_rfl) (by kernel_rfl) (wp 2 ?_))))))
  refine w_min .i64 (max a3 (0 : Int)) (s_0.length : Int) (by kernel_rfl) (by kernel_rfl) (wp 1 (nq (bi hr fun a7 a8 hr => agq hH [1, 6] [(1, (Vi .i64 a7))] ?_ ?_)))
  refine ce (lpS (fun a5 a2 => adx fu s_0 a5 a2) (min (max a3 (0 : Int)) (s_0.length : Int)) hH a8 [0, 1, 2, 6] (fun a2 => [(1, (Vi .i64 a2))]) (fun _ => rfl) ?_)
  rintro a5 a2 b7 G a4 a0
  rw [adx.eq_2] at a0
  refine cs (bi a0 fun a9 a1 a0 => agq a4 [0, 1, 2, 6, 22] [(22, (Vb a9))] ?_ ?_)
  refine cr (wp 4 (wd a1 (fun b0 a1 => ?_) (fun b0 a1 => ?_)))
  refine wp 3 (gy 16 (gi a1 fun b1 a1 => adz s_0 .i64 a2 Tryz.underlying9 (by kernel_rfl) (by kernel_rfl) b1 (gy 16 (bi a1 fun b8 b2 a1 => wc ent103 a4 (K_L_lexis_char_token b2 (hG.hp0 a4)) fun b9 b3 => wp 1 (wl (ql ?_))))))
  obtain rfl := oi a1
  exact je b3.kp
  refine wp 6 (wl (ql ?_))
  obtain rfl := oi a1
  exact je a4.kp
  intro c0 G a6
  refine cb a0 (fun b4 a0 => ?_) (fun b4 a0 => ?_)
  refine ck (qn (ce (cr (wp 1 (gi a0 fun b5 a0 => aac a2 (1 : Int) (by kernel_rfl) (by kernel_rfl) b5 (wp 1 (wl (bn ?_))))))))
  exact ql (le' (a2 + (1 : Int)) a6.kp a0)
  refine ach (acg (acq (aci (ql ?_))))
  obtain rfl := oi a0
  exact je a6.kp
  intro c1 G b6
  refine sr (wp 2 (nq (ct ?_)))
  obtain rfl := oi hr
  exact rv b6.kp
theorem agz {fu : Nat} {s_0 : Str} {a0 : Int} {w : World} {r : Int} (hr : afu fu s_0 a0 = some r) (hG : Gl w) : CR Tryz.prog 54 [(str s_0), (Vi .i64 a0)] w fun v w' => v = (Vi .i64 r) ∧ Hp w [] [] w' := by
  have hH : Hp w [] [] w := Hp.refl w
  refine enter (k := 8) Tryz.func54 rfl rfl (Nat.le_of_ble_eq_true rfl) ?_
  unfold afu at hr
  refine sr (wp 1 (nq (sr (wp 2 (bi hr fun y1 a1 hr => wc ent102 hH (alc a1 (hG.hp0 hH)) fun w3 a2 => ?_)))))
  refine wp 1 (nq (ct ?_))
  obtain rfl := oi hr
  exact rv a2.kp
theorem afb {fu : Nat} {s_0 : Str} {w : World} {r : Bool} (hr : aey fu s_0 = some r) (hG : Gl w) : CR Tryz.prog 69 [(str s_0)] w fun v w' => v = (Vb r) ∧ Hp w [] [] w' := by
  have hH : Hp w [] [] w := Hp.refl w
  refine enter (k := 12) Tryz.func69 rfl rfl (Nat.le_of_ble_eq_true rfl) ?_
  unfold aey at hr
  refine sr (wp 1 (nq (bi hr fun a1 a0 hr => agq hH [2] [(2, (Vb a1))] ?_ ?_)))
  refine cr (wp 2 (wn a0 (fun a2 a0 => ?_) (fun a2 a0 => ?_)))
  refine wp 1 (gy 5 (bi a0 fun a6 a3 a0 => wc ent54 hH (agz a3 (hG.hp0 hH)) fun a7 a4 => wp 5 (wl (ql ?_))))
  obtain rfl := oi a0
  exact je a4.kp
  refine wp 7 (wl (ql ?_))
  obtain rfl := oi a0
  exact je hH.kp
  intro a8 G a5
  refine ct ?_
  obtain rfl := oi hr
  exact rv a5.kp
theorem ajp {fu : Nat} {a0 : UInt8} {w : World} {r : UInt8} (hr : agu fu a0 = some r) (hG : Gl w) : CR Tryz.prog 88 [(bt a0)] w fun v w' => v = (bt r) ∧ Hp w [] [] w' := by
  have hH : Hp w [] [] w := Hp.refl w
  refine enter (k := 12) Tryz.func88 rfl rfl (Nat.le_of_ble_eq_true rfl) ?_
  unfold agu at hr
  refine sr (wp 1 (nq (cs (bi hr fun v5 a1 hr => agq hH [0, 2, 8] [(8, (Vb v5))] ?_ ?_))))
  refine cr (wp 1 (amq a0 (65 : UInt8) (by kernel_rfl) (by kernel_rfl) (wd a1 (fun h6 a1 => ?_) (fun h6 a1 => ?_))))
  refine wp 1 (gy 5 (amp a0 (90 : UInt8) (by kernel_rfl) (by kernel_rfl) (wp 1 (wl (ql ?_)))))
  obtain rfl := oi a1
  exact je hH.kp
  refine wp 3 (wl (ql ?_))
  obtain rfl := oi a1
  exact je hH.kp
  intro w7 G a2
  refine cb hr (fun h9 hr => ?_) (fun h9 hr => ?_)
  refine cr (wp 1 (w8_add a0 (32 : UInt8) (by kernel_rfl) (by kernel_rfl) (wp 1 (nq (sr (wp 2 (wl ?_)))))))
  refine qn (ct ?_)
  obtain rfl := oi hr
  exact rv a2.kp
  refine ck (qn (sr (wp 2 (nq (ct ?_)))))
  obtain rfl := oi hr
  exact rv a2.kp
theorem K_L_header_longName {fu : Nat} {a0 : UInt8} {w : World} {r : Str} (hr : aky fu a0 = some r) (hG : Gl w) : CR Tryz.prog 87 [(bt a0)] w fun v w' => v = (str r) ∧ Hp w [] [] w' := by
  have hH : Hp w [] [] w := Hp.refl w
  refine enter (k := 34) Tryz.func87 rfl rfl (Nat.le_of_ble_eq_true rfl) ?_
  unfold aky at hr
  refine sr (wp 1 (nq (cs (sr (wp 1 (wl ?_))))))
  refine qn (ce (sr (ack a0 (98 : UInt8) (by kernel_rfl) (by kernel_rfl) (wp 1 (nq (cd hr (fun h1 hr => ?_) (fun h1 hr => ?_)))))))
  refine sr (wp 1 (nq (ct (bt_ (st ?_)))))
  obtain rfl := oi hr
  exact rv hH.kp
  refine sr (ack a0 (99 : UInt8) (by kernel_rfl) (by kernel_rfl) (wp 1 (nq (cd hr (fun h2 hr => ?_) (fun h2 hr => ?_)))))
  refine sr (wp 1 (nq (ct (bt_ (st ?_)))))
  obtain rfl := oi hr
  exact rv hH.kp
  refine sr (ack a0 (101 : UInt8) (by kernel_rfl) (by kernel_rfl) (wp 1 (nq (cd hr (fun h3 hr => ?_) (fun h3 hr => ?_)))))
  refine sr (wp 1 (nq (ct (bt_ (st ?_)))))
  obtain rfl := oi hr
  exact rv hH.kp
  refine sr (ack a0 (102 : UInt8) (by kernel_rfl) (by kernel_rfl) (wp 1 (nq (cd hr (fun h4 hr => ?_) (fun h4 hr => ?_)))))
  refine sr (wp 1 (nq (ct (bt_ (st ?_)))))
  obtain rfl := oi hr
  exact rv hH.kp
  refine sr (ack a0 (105 : UInt8) (by kernel_rfl) (by kernel_rfl) (wp 1 (nq (cd hr (fun h5 hr => ?_) (fun h5 hr => ?_)))))
  refine sr (wp 1 (nq (ct (bt_ (st ?_)))))
  obtain rfl := oi hr
  exact rv hH.kp
  refine sr (ack a0 (107 : UInt8) (by kernel_rfl) (by kernel_rfl) (wp 1 (nq (cd hr (fun h6 hr => ?_) (fun h6 hr => ?_)))))
  refine sr (wp 1 (nq (ct (bt_ (st ?_)))))
  obtain rfl := oi hr
  exact rv hH.kp
  refine sr (ack a0 (108 : UInt8) (by kernel_rfl) (by kernel_rfl) (wp 1 (nq (cd hr (fun h7 hr => ?_) (fun h7 hr => ?_)))))
  refine sr (wp 1 (nq (ct (bt_ (st ?_)))))
  obtain rfl := oi hr
  exact rv hH.kp
  refine sr (ack a0 (109 : UInt8) (by kernel_rfl) (by kernel_rfl) (wp 1 (nq (cd hr (fun h8 hr => ?_) (fun h8 hr => ?_)))))
  refine sr (wp 1 (nq (ct (bt_ (st ?_)))))
  obtain rfl := oi hr
  exact rv hH.kp
  refine sr (ack a0 (111 : UInt8) (by kernel_rfl) (by kernel_rfl) (wp 1 (nq (cd hr (fun h9 hr => ?_) (fun h9 hr => ?_)))))
  refine sr (wp 1 (nq (ct (bt_ (st ?_)))))
  obtain rfl := oi hr
  exact rv hH.kp
  refine sr (ack a0 (114 : UInt8) (by kernel_rfl) (by kernel_rfl) (wp 1 (nq (cd hr (fun a1 hr => ?_) (fun a1 hr => ?_)))))
  refine sr (wp 1 (nq (ct (bt_ (st ?_)))))
  obtain rfl := oi hr
  exact rv hH.kp
  refine sr (ack a0 (115 : UInt8) (by kernel_rfl) (by kernel_rfl) (wp 1 (nq (cd hr (fun a2 hr => ?_) (fun a2 hr => ?_)))))
  refine sr (wp 1 (nq (ct (bt_ (st ?_)))))
  obtain rfl := oi hr
  exact rv hH.kp
  refine sr (ack a0 (116 : UInt8) (by kernel_rfl) (by kernel_rfl) (wp 1 (nq (cd hr (fun a3 hr => ?_) (fun a3 hr => ?_)))))
  refine sr (wp 1 (nq (ct (bt_ (st ?_)))))
  obtain rfl := oi hr
  exact rv hH.kp
  refine sr (ack a0 (117 : UInt8) (by kernel_rfl) (by kernel_rfl) (wp 1 (nq (cd hr (fun a4 hr => ?_) (fun a4 hr => ?_)))))
  refine sr (wp 1 (nq (ct (bt_ (st ?_)))))
  obtain rfl := oi hr
  exact rv hH.kp
  refine sr (ack a0 (118 : UInt8) (by kernel_rfl) (by kernel_rfl) (wp 1 (nq (cd hr (fun a5 hr => ?_) (fun a5 hr => ?_)))))
  refine sr (wp 1 (nq (ct (bt_ (st ?_)))))
  obtain rfl := oi hr
  exact rv hH.kp
  refine sr (ack a0 (120 : UInt8) (by kernel_rfl) (by kernel_rfl) (wp 1 (nq (cd hr (fun a6 hr => ?_) (fun a6 hr => ?_)))))
  refine sr (wp 1 (nq (ct (bt_ (st ?_)))))
  obtain rfl := oi hr
  exact rv hH.kp
  refine ck (bn (qn (sr (wp 1 (nq (ct ?_))))))
  obtain rfl := oi hr
  exact rv hH.kp
theorem agf {fu : Nat} {s_0 : Str} {w : World} {r : Str} (hr : adu fu s_0 = some r) (hG : Gl w) : CR Tryz.prog 52 [(str s_0), (Value.func (.func 88) #[] #[])] w fun v w' => v = (str r) ∧ Hp w [] [] w' := by
  have hH : Hp w [] [] w := Hp.refl w
  refine enter (k := 26) Tryz.func52 rfl rfl (Nat.le_of_ble_eq_true rfl) ?_
  unfold adu at hr
  refine sr (wp 1 (nq (sr (wp 1 (w_tobytes hH s_0 5 Tryz.underlying9 Tryz.underlying92 Tryz.underlying5 (by kernel_rfl) fun a1 cap2 w3 b2 => wp 1 ?_)))))
  refine nq (bi hr fun b1 b3 hr => cut (σ := Str) [4, 5] (fun a4 => []) (fun a4 w' => Hp w [] [brow (Vs a1 s_0.length cap2) s_0.length a4] w' ∧ a4 = b1) ?_ ?_)
  refine sr (wp 3 (nq (ce (lpG (σ := Nat × Str × Int) [1, 4, 5, 10, 11, 12] (fun ⟨a5, a3, a2⟩ => [(12, (Vi .i64 a2))]) (fun ⟨a5, a3, a2⟩ w' => Hp w [] [brow (Vs a1 s_0.length cap2) s_0.length a3] w' ∧ adf fu s_0 a5 a3 a2 = some b1) (fun ⟨a5, a3, a2⟩ => a5) (fu, s_0, (0 : Int)) (by exact ⟨b2.kp, b3⟩) ?_))))
  rintro ⟨_ | a5, a3, a2⟩ c3 G ⟨a6, a0⟩
  · exact absurd (show none = some _ from a0) (by simp)
  rw [adf.eq_2] at a0
  refine sr (wp 1 (nq (cs (cd a0 (fun b4 a0 => ?_) (fun b4 a0 => ?_)))))
  refine ck (qn (cs (ce (sr (wp 1 (gi a0 fun b5 a0 => aht a1 s_0.length cap2 5 1 .i64 a2 Tryz.underlying92 (by kernel_rfl) (by kernel_rfl) (by kernel_rfl) a3 (a6.browlen 0 rfl).symm b5 (Rd.ofbytes (a6.rdbrow 0 rfl)) aks (by decide) (gi a0 fun b6 a0 => ?_)))))))
  refine w_ldE1 a1 eB a3 1 a2 aks (Rd.ofbytes (a6.rdbrow 0 rfl)) (bt (at_ a3 a2)) b6 (by decide) (by kernel_rfl) (by kernel_rfl) (by kernel_rfl) (wp 2 (nq (cr (wp 4 (bi a0 fun a7 b7 a0 => wc ent88 a6 (ajp b7 (hG.hp0 a6)) fun c4 a8 => gi a0 fun b8 a0 => aht a1 s_0.length cap2 5 1 .i64 a2 Tryz.underlying92 (by kernel_rfl) (by kernel_rfl) (by kernel_rfl) a3 (a8.browlen 0 rfl).symm b8 (Rd.ofbytes (a8.rdbrow 0 rfl)) aks (by decide) ?_)))))
  refine gi a0 fun b9 a0 => w_stB a8 0 a1 s_0.length cap2 a2 a3 a7 rfl b9 (by kernel_rfl) (by kernel_rfl) (by kernel_rfl) fun c0 a9 => ?_
  replace a9 : Hp w [] [brow (Vs a1 s_0.length cap2) s_0.length (List.set a3 (Int.toNat a2) a7)] c0 := a9
  refine wl (bn (qn (cr (gi a0 fun c1 a0 => aac a2 (1 : Int) (by kernel_rfl) (by kernel_rfl) c1 (wp 1 (wl (ql ?_)))))))
  exact ⟨(a5, List.set a3 (Int.toNat a2) a7, a2 + (1 : Int)), _, rfl, by kernel_rfl, ⟨a9.kp, a0⟩, Nat.lt_succ_self _⟩
  refine ach (acg (acq (aci (ql ?_))))
  obtain rfl := oi a0
  exact ⟨a3, _, rfl, by kernel_rfl, a6.kp, rfl⟩
  rintro a4 c2 G ⟨b0, rfl⟩
  refine sr (wp 1 (aed (v := (str a4)) (w' := c2) rfl rfl (anm a4 a1 s_0.length cap2 5 (Rd.bytes (Rd.ofbytes (b0.rdbrow 0 rfl))) (b0.browlen 0 rfl) Tryz.underlying92 Tryz.underlying9 Tryz.underlying5 (by kernel_rfl)) (wp 1 (nq (ct ?_)))))
  obtain rfl := oi hr
  exact rv b0.kp
theorem alv {fu : Nat} {a0 : UInt8} {w : World} {r : UInt8} (hr : aio fu a0 = some r) (hG : Gl w) : CR Tryz.prog 53 [(bt a0)] w fun v w' => v = (bt r) ∧ Hp w [] [] w' := by
  have hH : Hp w [] [] w := Hp.refl w
  refine enter (k := 12) Tryz.func53 rfl rfl (Nat.le_of_ble_eq_true rfl) ?_
  unfold aio at hr
  refine sr (wp 1 (nq (cs (bi hr fun v5 a1 hr => agq hH [0, 2, 8] [(8, (Vb v5))] ?_ ?_))))
  refine cr (wp 1 (amq a0 (97 : UInt8) (by kernel_rfl) (by kernel_rfl) (wd a1 (fun h6 a1 => ?_) (fun h6 a1 => ?_))))
  refine wp 1 (gy 5 (amp a0 (122 : UInt8) (by kernel_rfl) (by kernel_rfl) (wp 1 (wl (ql ?_)))))
  obtain rfl := oi a1
  exact je hH.kp
  refine wp 3 (wl (ql ?_))
  obtain rfl := oi a1
  exact je hH.kp
  intro w7 G a2
  refine cb hr (fun h9 hr => ?_) (fun h9 hr => ?_)
  refine cr (wp 1 (w8_sub a0 (32 : UInt8) (by kernel_rfl) (by kernel_rfl) (wp 1 (nq (sr (wp 2 (wl ?_)))))))
  refine qn (ct ?_)
  obtain rfl := oi hr
  exact rv a2.kp
  refine ck (qn (sr (wp 2 (nq (ct ?_)))))
  obtain rfl := oi hr
  exact rv a2.kp
end Go.Proofs
set_option linter.unusedVariables false
set_option linter.unusedSimpArgs false
set_option maxRecDepth 20000
set_option maxHeartbeats 1000000
namespace Go.Proofs
open Go.Wk Go.Px
open Go.Value renaming slice → Vs, int → Vi, bool → Vb, pointer → Vp
theorem ent52 : Go.Wk.Enters Tryz.prog 52 := ⟨Tryz.f52, _, Tryz.func52, rfl, by kernel_rfl⟩
theorem ent53 : Go.Wk.Enters Tryz.prog 53 := ⟨Tryz.f53, _, Tryz.func53, rfl, by kernel_rfl⟩
theorem ent69 : Go.Wk.Enters Tryz.prog 69 := ⟨Tryz.f69, _, Tryz.func69, rfl, by kernel_rfl⟩
theorem ent87 : Go.Wk.Enters Tryz.prog 87 := ⟨Tryz.f87, _, Tryz.func87, rfl, by kernel_rfl⟩
theorem ent89 : Go.Wk.Enters Tryz.prog 89 := ⟨Tryz.f89, _, Tryz.func89, rfl, by kernel_rfl⟩
theorem K_L_header_Canon_1 {fu : Nat} {a2 : UInt8} {a1 : Bool} (a0 : Nat) {w : World} {r : (UInt8 × Bool)} (hr : alm fu a2 a1 = some r) (hG : Gl w) (hM : Hp w (aaj [blk a0 [(Vb a1)] 4]) [blk a0 [(Vb a1)] 4] w) (hS : ∀ b ∈ aaj [blk a0 [(Vb a1)] 4], 9 ≤ b) : CR Tryz.prog 89 [(bt a2), (Vp (some ⟨a0, 0, none⟩))] w fun v w' => v = (bt r.1) ∧ Hp w (aaj [blk a0 [(Vb a1)] 4]) [blk a0 [(Vb r.2)] 4] w' := by
  have hH : Hp w (aaj [blk a0 [(Vb a1)] 4]) [blk a0 [(Vb a1)] 4] w := hM
  refine enter (k := 12) Tryz.func89 rfl rfl (Nat.le_of_ble_eq_true rfl) ?_
  unfold alm at hr
  refine sr (wp 1 (nq (cs (sr (aav hH 0 a0 0 [(Vb a1)] 4 (Vb a1) rfl rfl (by kernel_rfl) (by kernel_rfl) (wl ?_))))))
  refine qn (cb hr (fun h1 hr => ?_) (fun h1 hr => ?_))
  refine cr (wp 1 (bi hr fun y2 a3 hr => wc ent53 hH (alv a3 (hG.hp hH hS)) fun w4 a4 => wp 1 (nq (sr (wp 1 ?_)))))
  refine ack y2 (45 : UInt8) (by kernel_rfl) (by kernel_rfl) (aeu a4 0 a0 0 [(Vb a1)] 4 (Vb (decide (y2 = (45 : UInt8)))) [blk a0 [(Vb (decide (y2 = (45 : UInt8))))] 4] rfl (Nat.lt_of_lt_of_le (Nat.lt_succ_self _) (Nat.le_of_ble_eq_true rfl)) (by kernel_rfl) (by kernel_rfl) rfl (by kernel_rfl) rfl fun w7 a5 => nq (sr (wp 2 (nq (ct ?_)))))
  obtain rfl := oi hr
  refine ana (bt y2) rfl (by kernel_rfl) ?_
  exact ⟨(by first | rfl | (simp; done) | (simp; omega)), a5.kp⟩
  refine cr (wp 1 (bi hr fun y9 a6 hr => wc ent88 hH (ajp a6 (hG.hp hH hS)) fun a9 a7 => wp 1 (nq (sr (wp 1 ?_)))))
  refine ack y9 (45 : UInt8) (by kernel_rfl) (by kernel_rfl) (aeu a7 0 a0 0 [(Vb a1)] 4 (Vb (decide (y9 = (45 : UInt8)))) [blk a0 [(Vb (decide (y9 = (45 : UInt8))))] 4] rfl (Nat.lt_of_lt_of_le (Nat.lt_succ_self _) (Nat.le_of_ble_eq_true rfl)) (by kernel_rfl) (by kernel_rfl) rfl (by kernel_rfl) rfl fun b0 a8 => nq (sr (wp 2 (nq (ct ?_)))))
  obtain rfl := oi hr
  refine ana (bt y9) rfl (by kernel_rfl) ?_
  exact ⟨(by first | rfl | (simp; done) | (simp; omega)), a8.kp⟩
theorem ake {fu : Nat} {s_0 : Str} {a5 : Bool} (a0 : Nat) {w : World} {r : (Str × Bool)} (hr : afd fu s_0 a5 = some r) (hG : Gl w) (hM : Hp w (aaj [blk a0 [(Vb a5)] 4]) [blk a0 [(Vb a5)] 4] w) (hS : ∀ b ∈ aaj [blk a0 [(Vb a5)] 4], 9 ≤ b) : CR Tryz.prog 52 [(str s_0), (Value.func (.func 89) #[] #[(Vp (some ⟨a0, 0, none⟩))])] w fun v w' => v = (str r.1) ∧ Hp w (aaj [blk a0 [(Vb a5)] 4]) [blk a0 [(Vb r.2)] 4] w' := by
  have hH : Hp w (aaj [blk a0 [(Vb a5)] 4]) [blk a0 [(Vb a5)] 4] w := hM
  refine enter (k := 26) Tryz.func52 rfl rfl (Nat.le_of_ble_eq_true rfl) ?_
  unfold afd at hr
  refine sr (wp 1 (nq (sr (wp 1 (w_tobytes hH s_0 5 Tryz.underlying9 Tryz.underlying92 Tryz.underlying5 (by kernel_rfl) fun a1 cap2 w3 b6 => wp 1 ?_)))))
  refine nq (bi hr fun b4 b7 hr => cut (σ := (Str × Bool)) [4, 5] (fun a6 => []) (fun a6 w' => Hp w (aaj [blk a0 [(Vb a5)] 4]) [blk a0 [(Vb a6.2)] 4, brow (Vs a1 s_0.length cap2) s_0.length a6.1] w' ∧ a6 = b4) ?_ ?_)
  refine sr (wp 3 (nq (ce (lpG (σ := Nat × Str × Int × Bool) [1, 4, 5, 10, 11, 12] (fun ⟨a9, a3, a4, a7⟩ => [(12, (Vi .i64 a4))]) (fun ⟨a9, a3, a4, a7⟩ w' => Hp w (aaj [blk a0 [(Vb a5)] 4]) [blk a0 [(Vb a7)] 4, brow (Vs a1 s_0.length cap2) s_0.length a3] w' ∧ adk fu s_0 a9 a3 a4 a7 = some b4) (fun ⟨a9, a3, a4, a7⟩ => a9) (fu, s_0, (0 : Int), a5) (by exact ⟨(Hp.front b6 1 _ rfl).kp, b7⟩) ?_))))
  rintro ⟨_ | a9, a3, a4, a7⟩ c8 G ⟨a8, a2⟩
  · exact absurd (show none = some _ from a2) (by simp)
  rw [adk.eq_2] at a2
  refine sr (wp 1 (nq (cs (cd a2 (fun b8 a2 => ?_) (fun b8 a2 => ?_)))))
  refine ck (qn (cs (ce (sr (wp 1 (gi a2 fun b9 a2 => aht a1 s_0.length cap2 5 1 .i64 a4 Tryz.underlying92 (by kernel_rfl) (by kernel_rfl) (by kernel_rfl) a3 (a8.browlen 1 rfl).symm b9 (Rd.ofbytes (a8.rdbrow 1 rfl)) aks (by decide) (gi a2 fun c0 a2 => ?_)))))))
  refine w_ldE1 a1 eB a3 1 a4 aks (Rd.ofbytes (a8.rdbrow 1 rfl)) (bt (at_ a3 a4)) c0 (by decide) (by kernel_rfl) (by kernel_rfl) (by kernel_rfl) (wp 2 (nq (cr (wp 4 (bi a2 fun b0 c1 a2 => aad 89 #[(Vp (some ⟨a0, 0, none⟩))] [(bt (at_ a3 a4)), (Vp (some ⟨a0, 0, none⟩))] _ ent89 (by kernel_rfl) (by kernel_rfl) (K_L_header_Canon_1 a0 c1 (hG.hp a8 hS) (a8.hand (L1 := [blk a0 [(Vb a7)] 4]) (L2 := [brow (Vs a1 s_0.length cap2) s_0.length a3])) (a8.highs hG hS 1 rfl)) ?_)))))
  rintro _ c2 ⟨rfl, b5⟩
  have b1 : Hp w (aaj [blk a0 [(Vb a5)] 4]) [blk a0 [(Vb b0.2)] 4, brow (Vs a1 s_0.length cap2) s_0.length a3] c2 := Hp.callK (L1 := [blk a0 [(Vb a7)] 4]) (L2 := [brow (Vs a1 s_0.length cap2) s_0.length a3]) a8 b5; clear b5
  refine gi a2 fun c3 a2 => aht a1 s_0.length cap2 5 1 .i64 a4 Tryz.underlying92 (by kernel_rfl) (by kernel_rfl) (by kernel_rfl) a3 (b1.browlen 1 rfl).symm c3 (Rd.ofbytes (b1.rdbrow 1 rfl)) aks (by decide) (gi a2 fun c4 a2 => w_stB b1 1 a1 s_0.length cap2 a4 a3 b0.1 rfl c4 (by kernel_rfl) (by kernel_rfl) (by kernel_rfl) fun c5 b2 => ?_)
  replace b2 : Hp w (aaj [blk a0 [(Vb a5)] 4]) [blk a0 [(Vb b0.2)] 4, brow (Vs a1 s_0.length cap2) s_0.length (List.set a3 (Int.toNat a4) b0.1)] c5 := b2
  refine wl (bn (qn (cr (gi a2 fun c6 a2 => aac a4 (1 : Int) (by kernel_rfl) (by kernel_rfl) c6 (wp 1 (wl (ql ?_)))))))
  exact ⟨(a9, List.set a3 (Int.toNat a4) b0.1, a4 + (1 : Int), b0.2), _, rfl, by kernel_rfl, ⟨(Hp.front (Hp.front b2 1 _ rfl) 1 _ rfl).kp, a2⟩, Nat.lt_succ_self _⟩
  refine ach (acg (acq (aci (ql ?_))))
  obtain rfl := oi a2
  exact ⟨(a3, a7), _, rfl, by kernel_rfl, (Hp.front (Hp.front a8 1 _ rfl) 1 _ rfl).kp, rfl⟩
  rintro a6 c7 G ⟨b3, rfl⟩
  refine sr (wp 1 (aed (v := (str a6.1)) (w' := c7) rfl rfl (anm a6.1 a1 s_0.length cap2 5 (Rd.bytes (Rd.ofbytes (b3.rdbrow 1 rfl))) (b3.browlen 1 rfl) Tryz.underlying92 Tryz.underlying9 Tryz.underlying5 (by kernel_rfl)) (wp 1 (nq (ct ?_)))))
  obtain rfl := oi hr
  refine ana (str a6.1) rfl (by kernel_rfl) ?_
  exact ⟨(by first | rfl | (simp; done) | (simp; omega)), b3.kp⟩
theorem K_L_header_Canon {fu : Nat} {a6 : Str} {w : World} {r : (Str × UInt8)} (hr : alh fu a6 = some r) (hG : Gl w) : CR Tryz.prog 34 [(str a6)] w fun v w' => v = (Value.tuple #[(str r.1), (bt r.2)]) ∧ Hp w [] [] w' := by
  have hH : Hp w [] [] w := Hp.refl w
  refine enter (k := 42) Tryz.func34 rfl rfl (Nat.le_of_ble_eq_true rfl) ?_
  unfold alh at hr
  refine sr (wp 2 (nq (cs (bi hr fun b7 a3 hr => agq hH [0, 2, 3, 16] [(16, (Vb b7))] ?_ ?_))))
  refine cr (wp 1 (bi a3 fun e4 b8 a3 => wc ent69 hH (afb b8 (hG.hp0 hH)) fun e5 b0 => wp 1 (wb a3 (fun b9 a3 => ?_) (fun b9 a3 => ?_))))
  refine wp 4 (wl (ql ?_))
  obtain rfl := oi a3
  exact je b0.kp
  refine wp 4 (wl (ql ?_))
  obtain rfl := oi a3
  exact je b0.kp
  intro e6 G a5
  refine cb hr (fun c0 hr => ?_) (fun c0 hr => ?_)
  refine sr (wp 2 (nq (ct (st ?_))))
  obtain rfl := oi hr
  exact rv a5.kp
  refine ck (qn (bi hr fun c1 a1 hr => cut1 a5 c1 [0, 2, 3] (fun c2 => []) ?_ ?_))
  refine sr (wp 3 (nq (cd a1 (fun c3 a1 => ?_) (fun c3 a1 => ?_))))
  refine sr (wp 1 (gi a1 fun c4 a1 => adz a6 .i64 (0 : Int) Tryz.underlying9 (by kernel_rfl) (by kernel_rfl) c4 (bi a1 fun e7 c5 a1 => wc ent88 a5 (ajp c5 (hG.hp0 a5)) fun e8 b1 => bi a1 fun e9 c6 a1 => wc ent87 b1 (K_L_header_longName c6 (hG.hp0 b1)) fun f0 b2 => wp 1 ?_)))
  refine nq (sr (wp 2 (nq (cn a1 (fun c7 a1 => ?_) (fun c7 a1 => ?_)))))
  refine sr (wp 3 (nq (ct (acp ?_))))
  obtain rfl := oi a1
  obtain rfl := oi hr
  exact rv b2.kp
  refine ck (ql ?_)
  obtain rfl := oi a1
  exact je1 rfl b2.kp
  refine ck (ql ?_)
  obtain rfl := oi a1
  exact je1 rfl a5.kp
  rintro c2 f1 G b3 rfl
  refine sr (wp 1 (bi hr fun c8 c9 hr => wc ent52 b3 (agf c9 (hG.hp0 b3)) fun f2 a8 => wp 1 (nq (bi hr fun d0 d1 hr => cut1 a8 d0 [0, 2, 3] (fun d2 => []) ?_ ?_))))
  refine sr (w_rdN (some ⟨0, 0, none⟩) (List.flatMap eS ahw) [(str ([67, 97, 108, 108, 45, 73, 68] : Str)), (str ([67, 83, 101, 113] : Str)), (str ([77, 73, 77, 69, 45, 86, 101, 114, 115, 105, 111, 110] : Str)), (str ([77, 105, 110, 45, 83, 69] : Str)), (str ([82, 65, 99, 107] : Str)), (str ([82, 83, 101, 113] : Str)), (str ([87, 87, 87, 45, 65, 117, 116, 104, 101, 110, 116, 105, 99, 97, 116, 101] : Str))] 0 7 (hG.specials.rd.hp a8) rfl rfl (by decide) (by kernel_rfl) (by kernel_rfl) (by kernel_rfl) (wp 1 (nq (ce (lpS (fun b4 a2 => aip fu c8 b4 a2) (0 : Int) a8 d1 [0, 2, 3, 5, 30, 29] (fun a2 => [(30, (Vi .i64 a2))]) (fun _ => rfl) ?_)))))
  rintro b4 a2 f3 G a9 a0
  rw [aip.eq_2] at a0
  refine sr (wp 1 (nq (cs (cd a0 (fun d3 a0 => ?_) (fun d3 a0 => ?_)))))
  refine ck (qn (cs (ce (sr (gi a0 fun d4 a0 => w_ixA eS ahw 7 .i64 a2 [(str ([67, 97, 108, 108, 45, 73, 68] : Str)), (str ([67, 83, 101, 113] : Str)), (str ([77, 73, 77, 69, 45, 86, 101, 114, 115, 105, 111, 110] : Str)), (str ([77, 105, 110, 45, 83, 69] : Str)), (str ([82, 65, 99, 107] : Str)), (str ([82, 83, 101, 113] : Str)), (str ([87, 87, 87, 45, 65, 117, 116, 104, 101, 110, 116, 105, 99, 97, 116, 101] : Str))] (str (el ahw a2)) rfl Tryz.underlying99 rfl (by kernel_rfl) (by kernel_rfl) (by kernel_rfl) (by kernel_rfl) (by kernel_rfl) d4 (wp 1 (wl ?_)))))))
  refine qn (sr (wp 1 (bi a0 fun f4 d5 a0 => wc ent52 a9 (agf d5 (hG.hp0 a9)) fun f5 b5 => wp 2 (nq (cd a0 (fun d6 a0 => ?_) (fun d6 a0 => ?_))))))
  refine sr (wp 3 (nq (ct (bt_ (st (acp (bt_ ?_)))))))
  refine acp ?_
  obtain rfl := oi a0
  obtain rfl := oi hr
  exact rv b5.kp
  exact ck (bn (qn (cr (gi a0 fun d7 a0 => aac a2 (1 : Int) (by kernel_rfl) (by kernel_rfl) d7 (wp 1 (wl (ql (le' (a2 + (1 : Int)) b5.kp a0))))))))
  refine ach (acg (acq (aci (ql ?_))))
  obtain rfl := oi a0
  exact je1 rfl a9.kp
  rintro d2 f6 G d8 rfl
  refine sr (adl d8 [(Vb false)] 4 (fun b => (Vp (some ⟨b, 0, none⟩))) rfl rfl (by kernel_rfl) fun a4 f7 d9 => aeu d9 0 a4 0 [(Vb false)] 4 (Vb true) [blk a4 [(Vb true)] 4] rfl (Nat.lt_of_lt_of_le (Nat.lt_succ_self _) (Nat.le_of_ble_eq_true rfl)) (by kernel_rfl) (by kernel_rfl) rfl (by kernel_rfl) rfl fun f8 a7 => nq (sr (wp 2 (bi hr fun e0 e1 hr => ?_))))
  refine aad 52 #[] [(str a6), (Value.func (.func 89) #[] #[(Vp (some ⟨a4, 0, none⟩))])] _ ent52 (by kernel_rfl) (by kernel_rfl) (ake a4 e1 (hG.hp0 a7) (a7.hand (L1 := [blk a4 [(Vb true)] 4]) (L2 := [])) (a7.highs hG (fun _ h => absurd h (by simp)) 1 rfl)) ?_
  rintro _ e2 ⟨rfl, b6⟩
  have e3 : Hp w [] [blk a4 [(Vb e0.2)] 4] e2 := Hp.callK (L1 := [blk a4 [(Vb true)] 4]) (L2 := []) a7 b6; clear b6
  refine wp 2 (nq (ct ?_))
  obtain rfl := oi hr
  exact rv e3.kp
end Go.Proofs
set_option linter.unusedVariables false
set_option linter.unusedSimpArgs false
set_option maxRecDepth 20000
set_option maxHeartbeats 1000000
namespace Go.Proofs
open Go.Wk Go.Px
open Go.Value renaming slice → Vs, int → Vi, bool → Vb, pointer → Vp
theorem ent34 : Go.Wk.Enters Tryz.prog 34 := ⟨Tryz.f34, _, Tryz.func34, rfl, by kernel_rfl⟩
theorem ent78 : Go.Wk.Enters Tryz.prog 78 := ⟨Tryz.f78, _, Tryz.func78, rfl, by kernel_rfl⟩
theorem ent101 : Go.Wk.Enters Tryz.prog 101 := ⟨Tryz.f101, _, Tryz.func101, rfl, by kernel_rfl⟩
theorem ent137 : Go.Wk.Enters Tryz.prog 137 := ⟨Tryz.f137, _, Tryz.func137, rfl, by kernel_rfl⟩
theorem ani {fu : Nat} {a3 : Str} {w : World} {r : Int} (hr : akn fu a3 = some r) (hG : Gl w) : CR Tryz.prog 137 [(str a3)] w fun v w' => v = (Vi .i64 r) ∧ Hp w [] [] w' := by
  have hH : Hp w [] [] w := Hp.refl w
  refine enter (k := 18) Tryz.func137 rfl rfl (Nat.le_of_ble_eq_true rfl) ?_
  unfold akn at hr
  refine sr (wp 1 (nq (bi hr fun a5 a6 hr => cut1 hH a5 [2] (fun a7 => []) ?_ ?_)))
  refine sr (wp 1 (nq (ce (lpS (fun a4 a1 => ahx fu a3 a4 a1) (0 : Int) hH a6 [0, 2, 4] (fun a1 => [(4, (Vi .i64 a1))]) (fun _ => rfl) ?_))))
  rintro a4 a1 b6 G a2 a0
  rw [ahx.eq_2] at a0
  refine sr (wp 1 (nq (cs (cd a0 (fun a8 a0 => ?_) (fun a8 a0 => ?_)))))
  refine ck (qn (cs (ce (sr (wp 2 (nq (cs ?_)))))))
  refine cr (wp 1 (gi a0 fun a9 a0 => w_ixaA ⟨1, 0, none⟩ 31 181 2 .i64 a1 Tryz.underlying182 (by kernel_rfl) (by kernel_rfl) (by kernel_rfl) a9 (by decide) (w_fldE (some ⟨1, 0, none⟩) ((a1).toNat * 2) 0 (by kernel_rfl) (by kernel_rfl) (gi a0 fun b0 a0 => w_ldF (some ⟨1, 0, none⟩) ame akg 2 a1 0 enc_enamekind (hG.kinds.rd.hp a2) (str ((el akg a1).1)) b0 (by decide) (by kernel_rfl) (by kernel_rfl) (by kernel_rfl) (wp 2 (nq (cd a0 (fun b1 a0 => ?_) (fun b1 a0 => ?_))))))))
  refine sr (wp 1 (gi a0 fun b2 a0 => w_ixaA ⟨1, 0, none⟩ 31 181 2 .i64 a1 Tryz.underlying182 (by kernel_rfl) (by kernel_rfl) (by kernel_rfl) b2 (by decide) (w_fldE (some ⟨1, 0, none⟩) ((a1).toNat * 2) 1 (by kernel_rfl) (by kernel_rfl) (gi a0 fun b3 a0 => w_ldF (some ⟨1, 0, none⟩) ame akg 2 a1 1 enc_enamekind (hG.kinds.rd.hp a2) (Vi .i64 ((el akg a1).2)) b3 (by decide) (by kernel_rfl) (by kernel_rfl) (by kernel_rfl) (wp 1 (wl ?_))))))
  refine qn (ct (bt_ (st (acp (bt_ (acp ?_))))))
  obtain rfl := oi a0
  obtain rfl := oi hr
  exact rv a2.kp
  exact ck (bn (qn (cr (gi a0 fun b4 a0 => aac a1 (1 : Int) (by kernel_rfl) (by kernel_rfl) b4 (wp 1 (wl (ql (le' (a1 + (1 : Int)) a2.kp a0))))))))
  refine ach (acg (acq (aci (ql ?_))))
  obtain rfl := oi a0
  exact je1 rfl a2.kp
  rintro a7 b7 G b5 rfl
  refine sr (wp 1 (nq (ct ?_)))
  obtain rfl := oi hr
  exact rv b5.kp
theorem K_L_header_many {fu : Nat} {a3 : Str} {w : World} {r : Bool} (hr : ans fu a3 = some r) (hG : Gl w) : CR Tryz.prog 78 [(str a3)] w fun v w' => v = (Vb r) ∧ Hp w [] [] w' := by
  have hH : Hp w [] [] w := Hp.refl w
  refine enter (k := 19) Tryz.func78 rfl rfl (Nat.le_of_ble_eq_true rfl) ?_
  unfold ans at hr
  refine sr (wp 1 (nq (bi hr fun a5 a0 hr => cut1 hH a5 [0, 2] (fun a6 => []) ?_ ?_)))
  refine sr (wp 1 (nq (ce (cs (sr (wp 2 ?_))))))
  refine nq (cd a0 (fun a7 a0 => ?_) (fun a7 a0 => ?_))
  refine ck (qn (cd a0 (fun a8 a0 => ?_) (fun a8 a0 => ?_)))
  refine sr (wp 1 (nq (ct (bt_ (acp ?_)))))
  obtain rfl := oi a0
  obtain rfl := oi hr
  exact rv hH.kp
  refine ck (bn (ql ?_))
  obtain rfl := oi a0
  exact je1 rfl hH.kp
  refine sr (wp 2 (nq (cd a0 (fun a9 a0 => ?_) (fun a9 a0 => ?_))))
  refine ck (qn (cd a0 (fun b0 a0 => ?_) (fun b0 a0 => ?_)))
  refine sr (wp 1 (nq (ct (bt_ (acp ?_)))))
  obtain rfl := oi a0
  obtain rfl := oi hr
  exact rv hH.kp
  refine ck (bn (ql ?_))
  obtain rfl := oi a0
  exact je1 rfl hH.kp
  refine sr (wp 2 (nq (cd a0 (fun b1 a0 => ?_) (fun b1 a0 => ?_))))
  refine ck (qn (cd a0 (fun b2 a0 => ?_) (fun b2 a0 => ?_)))
  refine sr (wp 1 (nq (ct (bt_ (acp ?_)))))
  obtain rfl := oi a0
  obtain rfl := oi hr
  exact rv hH.kp
  refine ck (bn (ql ?_))
  obtain rfl := oi a0
  exact je1 rfl hH.kp
  refine sr (wp 2 (nq (cd a0 (fun b3 a0 => ?_) (fun b3 a0 => ?_))))
  refine ck (qn (cd a0 (fun b4 a0 => ?_) (fun b4 a0 => ?_)))
  refine sr (wp 1 (nq (ct (bt_ (acp ?_)))))
  obtain rfl := oi a0
  obtain rfl := oi hr
  exact rv hH.kp
  refine ck (bn (ql ?_))
  obtain rfl := oi a0
  exact je1 rfl hH.kp
  refine cr (wp 2 (nq (cd a0 (fun b5 a0 => ?_) (fun b5 a0 => ?_))))
  refine sr (wp 1 (nq (ct (bt_ (acp ?_)))))
  obtain rfl := oi a0
  obtain rfl := oi hr
  exact rv hH.kp
  refine ck (bn (ql ?_))
  obtain rfl := oi a0
  exact je1 rfl hH.kp
  rintro a6 c0 G a4 rfl
  refine sr (wp 1 (bi hr fun c1 b6 hr => wc ent137 a4 (ani b6 (hG.hp0 a4)) fun c2 a2 => wp 1 (nq (bi hr fun b7 a1 hr => agq a2 [2] [(2, (Vb b7))] ?_ ?_))))
  refine cr (wp 2 (wd a1 (fun b8 a1 => ?_) (fun b8 a1 => ?_)))
  refine wp 4 (wl (ql ?_))
  obtain rfl := oi a1
  exact je a2.kp
  refine wp 4 (wl (ql ?_))
  obtain rfl := oi a1
  exact je a2.kp
  intro c3 G b9
  refine ct ?_
  obtain rfl := oi hr
  exact rv b9.kp
theorem afq {fu : Nat} {s_0 : Str} {w : World} {r : Str} (hr : aeq fu s_0 = some r) (hG : Gl w) : CR Tryz.prog 51 [(str s_0)] w fun v w' => v = (str r) ∧ Hp w [] [] w' := by
  have hH : Hp w [] [] w := Hp.refl w
  refine enter (k := 5) Tryz.func51 rfl rfl (Nat.le_of_ble_eq_true rfl) ?_
  unfold aeq at hr
  refine sr (wp 1 (nq (sr (wp 1 (gi hr fun g4 hr => gi hr fun g5 hr => ?_)))))
  refine aad 101 #[] [(str s_0), (str ([32, 9] : Str))] _ ent101 (by kernel_rfl) (by kernel_rfl) (sh_Trim s_0 ([32, 9] : Str) w g4 g5) ?_
  rintro _ w1 ⟨rfl, a0⟩
  have a1 := hH.call a0; clear a0
  refine wp 1 (nq (ct ?_))
  obtain rfl := oi hr
  exact rv a1.kp
end Go.Proofs
