/-
  The law HeaderVias holds, second form: for every value and every Via of at most 1048576 values and letters the call returns true; no condition beyond the statement's own (part 4 of 8).
-/
import Derived.Test.YtpbfkeakaefenaaGreatDoorHq3
import Derived.Shelf.Strings.Builder1
import Derived.Shelf.Strings.Builder2
import Derived.Shelf.Strings.OnBuilder
import Derived.Shelf.Strings.Trim
import Derived.Shelf.Small.Utf8
import Derived.Shelf.Small.Strs
import Derived.Shelf.Small.Wraps
import Derived.Shelf.Strings.BuilderF
import Derived.Shelf.Strings.BuilderK
import Derived.Shelf.Utf8.RuneCount
import Derived.Shelf.Strings.Builder2Cap
import Derived.Shelf.Strconv.Itoa0
import Derived.Shelf.Strconv.Itoa1
import Derived.Shelf.LaysM
import Derived.Shelf.Strconv.Itoa2
import Derived.Shelf.Strconv.Itoa3
import Derived.Shelf.Strings.Search1
import Derived.Shelf.Strings.Search2
import Derived.Shelf.Strings.Search3
import Derived.Shelf.Strings.Cut
import Derived.Shelf.Strings.Count
import Derived.Shelf.Strings.Shaped
import Derived.Shelf.Strings.LastIndex
import Derived.Shelf.Strings.Prefix
import Derived.Shelf.Strings.Split
import Derived.Shelf.Strings.SplitShaped
import Derived.Shelf.Unicode.Decode
import Derived.Shelf.Strings.Runes
import Derived.Shelf.Strings.RuneCount
import Derived.Shelf.Strings.IndexAny
import Derived.Shelf.Strings.AsciiSet
import Derived.Shelf.Strings.IndexAnyAll
import Derived.Shelf.Strings.Explode
import Derived.Shelf.Unicode.DecodeSlow
import Derived.Shelf.Unicode.DecodeAny
import Derived.Shelf.Unicode.DecodeLast
import Derived.Shelf.Strings.BuilderCap
import Derived.Ground.PaProg
import Derived.Shelf.Path.Small
import Derived.Test.YtpbfkeakaefenaaGreatDoorProg
import Derived.Shelf.Strings.SlTrimAscii
namespace Go.Proofs
open Go.Shelf
def Tryz.lays169_ren : Go.Shelf.Ren := ⟨fun | 169 => 105 | n => n, fun | 70 => 109 | 9 => 9 | 0 => 0 | 72 => 111 | 37 => 85 | 127 => 167 | 3 => 3 | 5 => 5 | n => n, fun | n => n⟩
theorem Tryz.lays169 : Go.Proofs.Lays.n169 Tryz.prog Tryz.lays169_ren := {
  mixed := by kernel_rfl
  f169 := Tryz.func105.trans (congrArg some krf)
  t0 := Tryz.underlying0
  a0 := Tryz.isAgg0
  z0 := Tryz.sizeOf0
  v0 := Tryz.zeroValue0
  t3 := Tryz.underlying3
  a3 := Tryz.isAgg3
  z3 := Tryz.sizeOf3
  v3 := Tryz.zeroValue3
  t9 := Tryz.underlying9
  a9 := Tryz.isAgg9
  z9 := Tryz.sizeOf9
  v9 := Tryz.zeroValue9
  t37 := Tryz.underlying85
  a37 := Tryz.isAgg85
  z37 := Tryz.sizeOf85
  v37 := Tryz.zeroValue85
  t70 := Tryz.underlying109
  a70 := Tryz.isAgg109
  z70 := Tryz.sizeOf109
  v70 := Tryz.zeroValue109
  t72 := Tryz.underlying111
  a72 := Tryz.isAgg111
  z72 := Tryz.sizeOf111
  v72 := Tryz.zeroValue111
  t127 := Tryz.underlying167
  a127 := Tryz.isAgg167
  z127 := Tryz.sizeOf167
  v127 := Tryz.zeroValue167 }
theorem Tryz.Builder_Extra_169 : Builder.Extra Tryz.prog Tryz.lays169_ren := {
  sizeBuilder := by kernel_rfl
  liesBuilder := by kernel_rfl
  t5 := Tryz.underlying5
  a5 := Tryz.isAgg5
  z5 := Tryz.sizeOf5
  v5 := Tryz.zeroValue5
  infoByte := by kernel_rfl
  cellsByte := by kernel_rfl
  sizeByte := by kernel_rfl
  neB5 := by decide }
open Go.RowKit in
theorem Tryz.Builder_String_any (B b : Nat) (l : List UInt8) (w : World) (h : Lib.IsBuilder 111 5 B b (Lib.byteCells l) w) (hBw : B ≤ w.heap.size) :
    Calls Tryz.prog 105 #[.pointer (some ⟨b, 0, none⟩)] w fun e w' => e = .returned (.string ⟨l.toArray⟩) ∧ Below B w w' := Any.Builder_String_any Tryz.lays169 Tryz.Builder_Extra_169 B b l w h hBw
def Tryz.lays156_ren : Go.Shelf.Ren := ⟨fun | 156 => 59 | 165 => 119 | 166 => 104 | 169 => 105 | 240 => 165 | 241 => 172 | 276 => 199 | 277 => 206 | n => n, fun | 31 => 70 | 9 => 9 | 3 => 3 | 4 => 4 | 0 => 0 | 20 => 20 | 72 => 111 | 76 => 115 | 70 => 109 | 37 => 85 | 75 => 114 | 127 => 167 | 164 => 191 | 5 => 5 | 80 => 117 | n => n, fun | n => n⟩
theorem Tryz.lays156 : Go.Proofs.Lays.n156 Tryz.prog Tryz.lays156_ren := {
  mixed := by kernel_rfl
  f156 := Tryz.func59.trans (congrArg some krf)
  f165 := Tryz.func119.trans (congrArg some krf)
  f166 := Tryz.func104.trans (congrArg some krf)
  f169 := Tryz.func105.trans (congrArg some krf)
  f240 := Tryz.func165.trans (congrArg some krf)
  f241 := Tryz.func172.trans (congrArg some krf)
  f276 := Tryz.func199.trans (congrArg some krf)
  f277 := Tryz.func206.trans (congrArg some krf)
  t0 := Tryz.underlying0
  a0 := Tryz.isAgg0
  z0 := Tryz.sizeOf0
  v0 := Tryz.zeroValue0
  t3 := Tryz.underlying3
  a3 := Tryz.isAgg3
  z3 := Tryz.sizeOf3
  v3 := Tryz.zeroValue3
  t4 := Tryz.underlying4
  a4 := Tryz.isAgg4
  z4 := Tryz.sizeOf4
  v4 := Tryz.zeroValue4
  t9 := Tryz.underlying9
  a9 := Tryz.isAgg9
  z9 := Tryz.sizeOf9
  v9 := Tryz.zeroValue9
  t20 := Tryz.underlying20
  a20 := Tryz.isAgg20
  z20 := Tryz.sizeOf20
  v20 := Tryz.zeroValue20
  t31 := Tryz.underlying70
  a31 := Tryz.isAgg70
  z31 := Tryz.sizeOf70
  v31 := Tryz.zeroValue70
  t37 := Tryz.underlying85
  a37 := Tryz.isAgg85
  z37 := Tryz.sizeOf85
  v37 := Tryz.zeroValue85
  t70 := Tryz.underlying109
  a70 := Tryz.isAgg109
  z70 := Tryz.sizeOf109
  v70 := Tryz.zeroValue109
  t72 := Tryz.underlying111
  a72 := Tryz.isAgg111
  z72 := Tryz.sizeOf111
  v72 := Tryz.zeroValue111
  t75 := Tryz.underlying114
  a75 := Tryz.isAgg114
  z75 := Tryz.sizeOf114
  v75 := Tryz.zeroValue114
  t76 := Tryz.underlying115
  a76 := Tryz.isAgg115
  z76 := Tryz.sizeOf115
  v76 := Tryz.zeroValue115
  t127 := Tryz.underlying167
  a127 := Tryz.isAgg167
  z127 := Tryz.sizeOf167
  v127 := Tryz.zeroValue167
  t164 := Tryz.underlying191
  a164 := Tryz.isAgg191
  z164 := Tryz.sizeOf191
  v164 := Tryz.zeroValue191 }
theorem Tryz.Builder_Extra_156 : Builder.Extra Tryz.prog Tryz.lays156_ren := {
  sizeBuilder := by kernel_rfl
  liesBuilder := by kernel_rfl
  t5 := Tryz.underlying5
  a5 := Tryz.isAgg5
  z5 := Tryz.sizeOf5
  v5 := Tryz.zeroValue5
  infoByte := by kernel_rfl
  cellsByte := by kernel_rfl
  sizeByte := by kernel_rfl
  neB5 := by decide }
open Go.RowKit in
theorem Tryz.strings_Join_none (a : Option Addr) (c : Nat) (sep : ByteArray) (w : World) :
    Calls Tryz.prog 59 #[.slice a 0 c, .string sep] w fun e w' => e = .returned (.string ⟨#[]⟩) ∧ w' = w := Any.strings_Join_none Tryz.lays156 Tryz.Builder_Extra_156 a c sep w
open Go.RowKit in
theorem Tryz.strings_Join (bk o c : Nat) (xs : List ByteArray) (sep : ByteArray) (w : World) (hcells : ∀ (j : Nat) x, xs[j]? = some x → w.cell? ⟨bk, o + j, none⟩ = some (.string x)) (hbk : bk < w.heap.size) (hN : xs.length ≤ 140737488355328) (hcap : xs.length ≤ c) (hlen : (Lib.join (xs.map (·.data.toList)) sep.data.toList).length ≤ 140737488355328) :
    Calls Tryz.prog 59 #[.slice (some ⟨bk, o, none⟩) xs.length c, .string sep] w fun e w' => e = .returned (.string ⟨(Lib.join (xs.map (·.data.toList)) sep.data.toList).toArray⟩) ∧ Below w.heap.size w w' := Any.strings_Join Tryz.lays156 Tryz.Builder_Extra_156 bk o c xs sep w hcells hbk hN hcap hlen
def Tryz.lays161_ren : Go.Shelf.Ren := ⟨fun | 161 => 191 | 231 => 138 | 227 => 81 | 233 => 140 | 235 => 142 | 228 => 82 | 197 => 184 | 151 => 185 | 260 => 221 | 152 => 79 | 137 => 144 | 119 => 145 | 224 => 146 | 225 => 147 | 217 => 187 | 266 => 223 | n => n, fun | 9 => 9 | 4 => 4 | 3 => 3 | 5 => 5 | 117 => 93 | 116 => 92 | 0 => 0 | 124 => 151 | 105 => 180 | 21 => 21 | 119 => 225 | 46 => 154 | 139 => 228 | 138 => 227 | n => n, fun | 3 => 5 | 4 => 6 | n => n⟩
theorem Tryz.lays161 : Go.Proofs.Lays.n161 Tryz.prog Tryz.lays161_ren := {
  mixed := by kernel_rfl
  f119 := Tryz.func145.trans (congrArg some krf)
  f137 := Tryz.func144.trans (congrArg some krf)
  f151 := Tryz.func185.trans (congrArg some krf)
  f152 := Tryz.func79.trans (congrArg some krf)
  f161 := Tryz.func191.trans (congrArg some krf)
  f197 := Tryz.func184.trans (congrArg some krf)
  f217 := Tryz.func187.trans (congrArg some krf)
  f224 := Tryz.func146.trans (congrArg some krf)
  f225 := Tryz.func147.trans (congrArg some krf)
  f227 := Tryz.func81.trans (congrArg some krf)
  f228 := Tryz.func82.trans (congrArg some krf)
  f231 := Tryz.func138.trans (congrArg some krf)
  f233 := Tryz.func140.trans (congrArg some krf)
  f235 := Tryz.func142.trans (congrArg some krf)
  f260 := Tryz.func221.trans (congrArg some krf)
  f266 := Tryz.func223.trans (congrArg some krf)
  t0 := Tryz.underlying0
  a0 := Tryz.isAgg0
  z0 := Tryz.sizeOf0
  v0 := Tryz.zeroValue0
  t3 := Tryz.underlying3
  a3 := Tryz.isAgg3
  z3 := Tryz.sizeOf3
  v3 := Tryz.zeroValue3
  t4 := Tryz.underlying4
  a4 := Tryz.isAgg4
  z4 := Tryz.sizeOf4
  v4 := Tryz.zeroValue4
  t5 := Tryz.underlying5
  a5 := Tryz.isAgg5
  z5 := Tryz.sizeOf5
  v5 := Tryz.zeroValue5
  t9 := Tryz.underlying9
  a9 := Tryz.isAgg9
  z9 := Tryz.sizeOf9
  v9 := Tryz.zeroValue9
  t21 := Tryz.underlying21
  a21 := Tryz.isAgg21
  z21 := Tryz.sizeOf21
  v21 := Tryz.zeroValue21
  t46 := Tryz.underlying154
  a46 := Tryz.isAgg154
  z46 := Tryz.sizeOf154
  v46 := Tryz.zeroValue154
  t105 := Tryz.underlying180
  a105 := Tryz.isAgg180
  z105 := Tryz.sizeOf180
  v105 := Tryz.zeroValue180
  t116 := Tryz.underlying92
  a116 := Tryz.isAgg92
  z116 := Tryz.sizeOf92
  t117 := Tryz.underlying93
  a117 := Tryz.isAgg93
  z117 := Tryz.sizeOf93
  v117 := Tryz.zeroValue93
  t119 := Tryz.underlying225
  a119 := Tryz.isAgg225
  z119 := Tryz.sizeOf225
  t124 := Tryz.underlying151
  a124 := Tryz.isAgg151
  z124 := Tryz.sizeOf151
  v124 := Tryz.zeroValue151
  t138 := Tryz.underlying227
  a138 := Tryz.isAgg227
  z138 := Tryz.sizeOf227
  v138 := Tryz.zeroValue227
  t139 := Tryz.underlying228
  a139 := Tryz.isAgg228
  z139 := Tryz.sizeOf228
  v139 := Tryz.zeroValue228
  g3 := by kernel_rfl
  g4 := by kernel_rfl }
def Tryz.lays162_ren : Go.Shelf.Ren := ⟨fun | 162 => 205 | 232 => 139 | 227 => 81 | 234 => 141 | 236 => 143 | 228 => 82 | 271 => 186 | 151 => 185 | 120 => 222 | 197 => 184 | 152 => 79 | 260 => 221 | 137 => 144 | 119 => 145 | 224 => 146 | 225 => 147 | 217 => 187 | 266 => 223 | n => n, fun | 9 => 9 | 4 => 4 | 3 => 3 | 5 => 5 | 117 => 93 | 116 => 92 | 0 => 0 | 124 => 151 | 21 => 21 | 105 => 180 | 46 => 154 | 119 => 225 | 139 => 228 | 138 => 227 | n => n, fun | 3 => 5 | 4 => 6 | n => n⟩
theorem Tryz.lays162 : Go.Proofs.Lays.n162 Tryz.prog Tryz.lays162_ren := {
  mixed := by kernel_rfl
  f119 := Tryz.func145.trans (congrArg some krf)
  f120 := Tryz.func222.trans (congrArg some krf)
  f137 := Tryz.func144.trans (congrArg some krf)
  f151 := Tryz.func185.trans (congrArg some krf)
  f152 := Tryz.func79.trans (congrArg some krf)
  f162 := Tryz.func205.trans (congrArg some krf)
  f197 := Tryz.func184.trans (congrArg some krf)
  f217 := Tryz.func187.trans (congrArg some krf)
  f224 := Tryz.func146.trans (congrArg some krf)
  f225 := Tryz.func147.trans (congrArg some krf)
  f227 := Tryz.func81.trans (congrArg some krf)
  f228 := Tryz.func82.trans (congrArg some krf)
  f232 := Tryz.func139.trans (congrArg some krf)
  f234 := Tryz.func141.trans (congrArg some krf)
  f236 := Tryz.func143.trans (congrArg some krf)
  f260 := Tryz.func221.trans (congrArg some krf)
  f266 := Tryz.func223.trans (congrArg some krf)
  f271 := Tryz.func186.trans (congrArg some krf)
  t0 := Tryz.underlying0
  a0 := Tryz.isAgg0
  z0 := Tryz.sizeOf0
  v0 := Tryz.zeroValue0
  t3 := Tryz.underlying3
  a3 := Tryz.isAgg3
  z3 := Tryz.sizeOf3
  v3 := Tryz.zeroValue3
  t4 := Tryz.underlying4
  a4 := Tryz.isAgg4
  z4 := Tryz.sizeOf4
  v4 := Tryz.zeroValue4
  t5 := Tryz.underlying5
  a5 := Tryz.isAgg5
  z5 := Tryz.sizeOf5
  v5 := Tryz.zeroValue5
  t9 := Tryz.underlying9
  a9 := Tryz.isAgg9
  z9 := Tryz.sizeOf9
  v9 := Tryz.zeroValue9
  t21 := Tryz.underlying21
  a21 := Tryz.isAgg21
  z21 := Tryz.sizeOf21
  v21 := Tryz.zeroValue21
  t46 := Tryz.underlying154
  a46 := Tryz.isAgg154
  z46 := Tryz.sizeOf154
  v46 := Tryz.zeroValue154
  t105 := Tryz.underlying180
  a105 := Tryz.isAgg180
  z105 := Tryz.sizeOf180
  v105 := Tryz.zeroValue180
  t116 := Tryz.underlying92
  a116 := Tryz.isAgg92
  z116 := Tryz.sizeOf92
  t117 := Tryz.underlying93
  a117 := Tryz.isAgg93
  z117 := Tryz.sizeOf93
  v117 := Tryz.zeroValue93
  t119 := Tryz.underlying225
  a119 := Tryz.isAgg225
  z119 := Tryz.sizeOf225
  t124 := Tryz.underlying151
  a124 := Tryz.isAgg151
  z124 := Tryz.sizeOf151
  v124 := Tryz.zeroValue151
  t138 := Tryz.underlying227
  a138 := Tryz.isAgg227
  z138 := Tryz.sizeOf227
  v138 := Tryz.zeroValue227
  t139 := Tryz.underlying228
  a139 := Tryz.isAgg228
  z139 := Tryz.sizeOf228
  v139 := Tryz.zeroValue228
  g3 := by kernel_rfl
  g4 := by kernel_rfl }
def Tryz.lays160_ren : Go.Shelf.Ren := ⟨fun | 160 => 75 | 232 => 139 | 231 => 138 | 227 => 81 | 234 => 141 | 233 => 140 | 236 => 143 | 235 => 142 | 228 => 82 | 271 => 186 | 151 => 185 | 197 => 184 | 120 => 222 | 152 => 79 | 260 => 221 | 137 => 144 | 119 => 145 | 224 => 146 | 225 => 147 | 217 => 187 | 266 => 223 | n => n, fun | 9 => 9 | 4 => 4 | 3 => 3 | 5 => 5 | 117 => 93 | 116 => 92 | 0 => 0 | 124 => 151 | 21 => 21 | 105 => 180 | 46 => 154 | 119 => 225 | 139 => 228 | 138 => 227 | n => n, fun | 3 => 5 | 4 => 6 | n => n⟩
theorem Tryz.lays160 : Go.Proofs.Lays.n160 Tryz.prog Tryz.lays160_ren := {
  mixed := by kernel_rfl
  f119 := Tryz.func145.trans (congrArg some krf)
  f120 := Tryz.func222.trans (congrArg some krf)
  f137 := Tryz.func144.trans (congrArg some krf)
  f151 := Tryz.func185.trans (congrArg some krf)
  f152 := Tryz.func79.trans (congrArg some krf)
  f160 := Tryz.func75.trans (congrArg some krf)
  f197 := Tryz.func184.trans (congrArg some krf)
  f217 := Tryz.func187.trans (congrArg some krf)
  f224 := Tryz.func146.trans (congrArg some krf)
  f225 := Tryz.func147.trans (congrArg some krf)
  f227 := Tryz.func81.trans (congrArg some krf)
  f228 := Tryz.func82.trans (congrArg some krf)
  f231 := Tryz.func138.trans (congrArg some krf)
  f232 := Tryz.func139.trans (congrArg some krf)
  f233 := Tryz.func140.trans (congrArg some krf)
  f234 := Tryz.func141.trans (congrArg some krf)
  f235 := Tryz.func142.trans (congrArg some krf)
  f236 := Tryz.func143.trans (congrArg some krf)
  f260 := Tryz.func221.trans (congrArg some krf)
  f266 := Tryz.func223.trans (congrArg some krf)
  f271 := Tryz.func186.trans (congrArg some krf)
  t0 := Tryz.underlying0
  a0 := Tryz.isAgg0
  z0 := Tryz.sizeOf0
  v0 := Tryz.zeroValue0
  t3 := Tryz.underlying3
  a3 := Tryz.isAgg3
  z3 := Tryz.sizeOf3
  v3 := Tryz.zeroValue3
  t4 := Tryz.underlying4
  a4 := Tryz.isAgg4
  z4 := Tryz.sizeOf4
  v4 := Tryz.zeroValue4
  t5 := Tryz.underlying5
  a5 := Tryz.isAgg5
  z5 := Tryz.sizeOf5
  v5 := Tryz.zeroValue5
  t9 := Tryz.underlying9
  a9 := Tryz.isAgg9
  z9 := Tryz.sizeOf9
  v9 := Tryz.zeroValue9
  t21 := Tryz.underlying21
  a21 := Tryz.isAgg21
  z21 := Tryz.sizeOf21
  v21 := Tryz.zeroValue21
  t46 := Tryz.underlying154
  a46 := Tryz.isAgg154
  z46 := Tryz.sizeOf154
  v46 := Tryz.zeroValue154
  t105 := Tryz.underlying180
  a105 := Tryz.isAgg180
  z105 := Tryz.sizeOf180
  v105 := Tryz.zeroValue180
  t116 := Tryz.underlying92
  a116 := Tryz.isAgg92
  z116 := Tryz.sizeOf92
  t117 := Tryz.underlying93
  a117 := Tryz.isAgg93
  z117 := Tryz.sizeOf93
  v117 := Tryz.zeroValue93
  t119 := Tryz.underlying225
  a119 := Tryz.isAgg225
  z119 := Tryz.sizeOf225
  t124 := Tryz.underlying151
  a124 := Tryz.isAgg151
  z124 := Tryz.sizeOf151
  v124 := Tryz.zeroValue151
  t138 := Tryz.underlying227
  a138 := Tryz.isAgg227
  z138 := Tryz.sizeOf227
  v138 := Tryz.zeroValue227
  t139 := Tryz.underlying228
  a139 := Tryz.isAgg228
  z139 := Tryz.sizeOf228
  v139 := Tryz.zeroValue228
  g3 := by kernel_rfl
  g4 := by kernel_rfl }
def Tryz.lays137_ren : Go.Shelf.Ren := ⟨fun | 137 => 144 | 217 => 187 | 266 => 223 | n => n, fun | 9 => 9 | 5 => 5 | 3 => 3 | n => n, fun | n => n⟩
theorem Tryz.lays137 : Go.Proofs.Lays.n137 Tryz.prog Tryz.lays137_ren := {
  mixed := by kernel_rfl
  f137 := Tryz.func144.trans (congrArg some krf)
  f217 := Tryz.func187.trans (congrArg some krf)
  f266 := Tryz.func223.trans (congrArg some krf)
  t3 := Tryz.underlying3
  a3 := Tryz.isAgg3
  z3 := Tryz.sizeOf3
  v3 := Tryz.zeroValue3
  t5 := Tryz.underlying5
  a5 := Tryz.isAgg5
  z5 := Tryz.sizeOf5
  v5 := Tryz.zeroValue5
  t9 := Tryz.underlying9
  a9 := Tryz.isAgg9
  z9 := Tryz.sizeOf9
  v9 := Tryz.zeroValue9 }
open Go.RowKit in
theorem Tryz.strings_IndexByte (s : ByteArray) (c : Int) (w : World) :
    Calls Tryz.prog 144 #[.string s, .int .u8 c] w fun e w' => e = .returned (.int .i64 (Lib.indexByte s.data.toList c.toNat.toUInt8)) ∧ w' = w := Any.strings_IndexByte Tryz.lays137 s c w
def Tryz.laysM171_ren : Go.Shelf.Ren := ⟨fun | 171 => 50 | 243 => 110 | 246 => 169 | 283 => 201 | 284 => 202 | 285 => 203 | 286 => 204 | 129 => 230 | 317 => 229 | 318 => 231 | 319 => 232 | 320 => 233 | 337 => 246 | 338 => 247 | n => n, fun | 3 => 3 | 9 => 9 | 2 => 2 | 4 => 4 | 171 => 194 | 0 => 0 | 53 => 195 | 37 => 85 | 5 => 5 | 173 => 198 | 212 => 216 | 51 => 217 | 20 => 20 | 213 => 218 | 46 => 154 | 232 => 234 | 233 => 235 | n => n, fun | 17 => 4 | 18 => 7 | 19 => 8 | n => n⟩
theorem Tryz.laysM171 : Go.Proofs.LaysM.n171 Tryz.prog Tryz.laysM171_ren := {
  mixed := by kernel_rfl
  f129 := Tryz.func230.trans (congrArg some krf)
  f171 := Tryz.func50.trans (congrArg some krf)
  f243 := Tryz.func110.trans (congrArg some krf)
  f246 := Tryz.func169.trans (congrArg some krf)
  f283 := Tryz.func201.trans (congrArg some krf)
  f284 := Tryz.func202.trans (congrArg some krf)
  f285 := Tryz.func203.trans (congrArg some krf)
  f286 := Tryz.func204.trans (congrArg some krf)
  f317 := Tryz.func229.trans (congrArg some krf)
  f318 := Tryz.func231.trans (congrArg some krf)
  f319 := Tryz.func232.trans (congrArg some krf)
  f320 := Tryz.func233.trans (congrArg some krf)
  f337 := Tryz.func246.trans (congrArg some krf)
  f338 := Tryz.func247.trans (congrArg some krf)
  t0 := Tryz.underlying0
  a0 := Tryz.isAgg0
  z0 := Tryz.sizeOf0
  v0 := Tryz.zeroValue0
  t2 := Tryz.underlying2
  a2 := Tryz.isAgg2
  z2 := Tryz.sizeOf2
  v2 := Tryz.zeroValue2
  t3 := Tryz.underlying3
  a3 := Tryz.isAgg3
  z3 := Tryz.sizeOf3
  v3 := Tryz.zeroValue3
  t4 := Tryz.underlying4
  a4 := Tryz.isAgg4
  z4 := Tryz.sizeOf4
  v4 := Tryz.zeroValue4
  t5 := Tryz.underlying5
  a5 := Tryz.isAgg5
  z5 := Tryz.sizeOf5
  v5 := Tryz.zeroValue5
  t9 := Tryz.underlying9
  a9 := Tryz.isAgg9
  z9 := Tryz.sizeOf9
  v9 := Tryz.zeroValue9
  t20 := Tryz.underlying20
  a20 := Tryz.isAgg20
  z20 := Tryz.sizeOf20
  v20 := Tryz.zeroValue20
  t37 := Tryz.underlying85
  a37 := Tryz.isAgg85
  z37 := Tryz.sizeOf85
  v37 := Tryz.zeroValue85
  t46 := Tryz.underlying154
  a46 := Tryz.isAgg154
  z46 := Tryz.sizeOf154
  v46 := Tryz.zeroValue154
  t51 := Tryz.underlying217
  a51 := Tryz.isAgg217
  z51 := Tryz.sizeOf217
  v51 := Tryz.zeroValue217
  t53 := Tryz.underlying195
  a53 := Tryz.isAgg195
  z53 := Tryz.sizeOf195
  v53 := Tryz.zeroValue195
  t171 := Tryz.underlying194
  a171 := Tryz.isAgg194
  z171 := Tryz.sizeOf194
  v171 := Tryz.zeroValue194
  t173 := Tryz.underlying198
  a173 := Tryz.isAgg198
  z173 := Tryz.sizeOf198
  v173 := Tryz.zeroValue198
  t212 := Tryz.underlying216
  a212 := Tryz.isAgg216
  z212 := Tryz.sizeOf216
  v212 := Tryz.zeroValue216
  t213 := Tryz.underlying218
  a213 := Tryz.isAgg218
  z213 := Tryz.sizeOf218
  t232 := Tryz.underlying234
  a232 := Tryz.isAgg234
  z232 := Tryz.sizeOf234
  v232 := Tryz.zeroValue234
  t233 := Tryz.underlying235
  a233 := Tryz.isAgg235
  z233 := Tryz.sizeOf235
  v233 := Tryz.zeroValue235
  g17 := by kernel_rfl
  g18 := by kernel_rfl
  g19 := by kernel_rfl
  i0 := by kernel_rfl
  i2 := by kernel_rfl
  i3 := by kernel_rfl
  i4 := by kernel_rfl
  i5 := by kernel_rfl
  i9 := by kernel_rfl
  i20 := by kernel_rfl
  i37 := by kernel_rfl
  i46 := by kernel_rfl
  i51 := by kernel_rfl
  i53 := by kernel_rfl
  i171 := by kernel_rfl
  i173 := by kernel_rfl
  i212 := by kernel_rfl
  i232 := by kernel_rfl
  i233 := by kernel_rfl
  m17 := by kernel_rfl
  m18 := by kernel_rfl
  m19 := by kernel_rfl }
open Go.RowKit Go.Sort Go.Lib in
theorem Tryz.strconv_Itoa (n : Int) (h0 : -9223372036854775808 ≤ n) (h1 : n ≤ 9223372036854775807) (w : World) (htab : Lib.TabIs Tryz.prog w "internal/strconv.uint64pow10" .u64 Lib.pow10Tab) :
    Calls Tryz.prog 50 #[.int .i64 n] w fun e w' => e = .returned (.string ⟨(Lib.itoa n).toArray⟩) ∧ ∃ k os, w' = grow (w.drewN k) os := Any.strconv_Itoa Tryz.laysM171 n h0 h1 w htab
def Tryz.lays143_ren : Go.Shelf.Ren := ⟨fun | 143 => 149 | 219 => 188 | 217 => 187 | 225 => 147 | 224 => 146 | 267 => 224 | 266 => 223 | 314 => 243 | n => n, fun | 9 => 9 | 3 => 3 | 4 => 4 | 5 => 5 | 46 => 154 | 146 => 229 | 51 => 217 | n => n, fun | 1 => 2 | n => n⟩
theorem Tryz.lays143 : Go.Proofs.Lays.n143 Tryz.prog Tryz.lays143_ren := {
  mixed := by kernel_rfl
  f143 := Tryz.func149.trans (congrArg some krf)
  f217 := Tryz.func187.trans (congrArg some krf)
  f219 := Tryz.func188.trans (congrArg some krf)
  f224 := Tryz.func146.trans (congrArg some krf)
  f225 := Tryz.func147.trans (congrArg some krf)
  f266 := Tryz.func223.trans (congrArg some krf)
  f267 := Tryz.func224.trans (congrArg some krf)
  f314 := Tryz.func243.trans (congrArg some krf)
  t3 := Tryz.underlying3
  a3 := Tryz.isAgg3
  z3 := Tryz.sizeOf3
  v3 := Tryz.zeroValue3
  t4 := Tryz.underlying4
  a4 := Tryz.isAgg4
  z4 := Tryz.sizeOf4
  v4 := Tryz.zeroValue4
  t5 := Tryz.underlying5
  a5 := Tryz.isAgg5
  z5 := Tryz.sizeOf5
  v5 := Tryz.zeroValue5
  t9 := Tryz.underlying9
  a9 := Tryz.isAgg9
  z9 := Tryz.sizeOf9
  v9 := Tryz.zeroValue9
  t46 := Tryz.underlying154
  a46 := Tryz.isAgg154
  z46 := Tryz.sizeOf154
  v46 := Tryz.zeroValue154
  t51 := Tryz.underlying217
  a51 := Tryz.isAgg217
  z51 := Tryz.sizeOf217
  v51 := Tryz.zeroValue217
  t146 := Tryz.underlying229
  a146 := Tryz.isAgg229
  z146 := Tryz.sizeOf229
  v146 := Tryz.zeroValue229
  g1 := by kernel_rfl }
open Go.RowKit Go.Lib in
theorem Tryz.strings_Index (s sub : ByteArray) (m : Int) (w : World) (hs : s.size < 4294967281) (hm : w.cell? ⟨2, 0, none⟩ = some (.int .i64 m)) :
    Calls Tryz.prog 149 #[.string s, .string sub] w fun e w' => e = .returned (.int .i64 (Lib.index s.data.toList sub.data.toList)) ∧ w' = w := Any.strings_Index Tryz.lays143 s sub m w hs hm
def Tryz.lays144_ren : Go.Shelf.Ren := ⟨fun | 144 => 84 | 143 => 149 | 219 => 188 | 217 => 187 | 225 => 147 | 224 => 146 | 267 => 224 | 266 => 223 | 314 => 243 | n => n, fun | 9 => 9 | 4 => 4 | 3 => 3 | 5 => 5 | 46 => 154 | 146 => 229 | 51 => 217 | n => n, fun | 1 => 2 | n => n⟩
theorem Tryz.lays144 : Go.Proofs.Lays.n144 Tryz.prog Tryz.lays144_ren := {
  mixed := by kernel_rfl
  f143 := Tryz.func149.trans (congrArg some krf)
  f144 := Tryz.func84.trans (congrArg some krf)
  f217 := Tryz.func187.trans (congrArg some krf)
  f219 := Tryz.func188.trans (congrArg some krf)
  f224 := Tryz.func146.trans (congrArg some krf)
  f225 := Tryz.func147.trans (congrArg some krf)
  f266 := Tryz.func223.trans (congrArg some krf)
  f267 := Tryz.func224.trans (congrArg some krf)
  f314 := Tryz.func243.trans (congrArg some krf)
  t3 := Tryz.underlying3
  a3 := Tryz.isAgg3
  z3 := Tryz.sizeOf3
  v3 := Tryz.zeroValue3
  t4 := Tryz.underlying4
  a4 := Tryz.isAgg4
  z4 := Tryz.sizeOf4
  v4 := Tryz.zeroValue4
  t5 := Tryz.underlying5
  a5 := Tryz.isAgg5
  z5 := Tryz.sizeOf5
  v5 := Tryz.zeroValue5
  t9 := Tryz.underlying9
  a9 := Tryz.isAgg9
  z9 := Tryz.sizeOf9
  v9 := Tryz.zeroValue9
  t46 := Tryz.underlying154
  a46 := Tryz.isAgg154
  z46 := Tryz.sizeOf154
  v46 := Tryz.zeroValue154
  t51 := Tryz.underlying217
  a51 := Tryz.isAgg217
  z51 := Tryz.sizeOf217
  v51 := Tryz.zeroValue217
  t146 := Tryz.underlying229
  a146 := Tryz.isAgg229
  z146 := Tryz.sizeOf229
  v146 := Tryz.zeroValue229
  g1 := by kernel_rfl }
open Go.RowKit Go.Lib in
theorem Tryz.strings_Contains (s sub : ByteArray) (m : Int) (w : World) (hs : s.size < 4294967281) (hm : w.cell? ⟨2, 0, none⟩ = some (.int .i64 m)) :
    Calls Tryz.prog 84 #[.string s, .string sub] w fun e w' => e = .returned (.bool (Lib.contains s.data.toList sub.data.toList)) ∧ w' = w := Any.strings_Contains Tryz.lays144 s sub m w hs hm
def Tryz.lays145_ren : Go.Shelf.Ren := ⟨fun | 145 => 150 | 220 => 189 | 219 => 188 | 217 => 187 | 225 => 147 | 224 => 146 | 267 => 224 | 266 => 223 | 314 => 243 | n => n, fun | 9 => 9 | 4 => 4 | 59 => 54 | 3 => 3 | 5 => 5 | 46 => 154 | 146 => 229 | 51 => 217 | n => n, fun | 1 => 2 | n => n⟩
theorem Tryz.lays145 : Go.Proofs.Lays.n145 Tryz.prog Tryz.lays145_ren := {
  mixed := by kernel_rfl
  f145 := Tryz.func150.trans (congrArg some krf)
  f217 := Tryz.func187.trans (congrArg some krf)
  f219 := Tryz.func188.trans (congrArg some krf)
  f220 := Tryz.func189.trans (congrArg some krf)
  f224 := Tryz.func146.trans (congrArg some krf)
  f225 := Tryz.func147.trans (congrArg some krf)
  f266 := Tryz.func223.trans (congrArg some krf)
  f267 := Tryz.func224.trans (congrArg some krf)
  f314 := Tryz.func243.trans (congrArg some krf)
  t3 := Tryz.underlying3
  a3 := Tryz.isAgg3
  z3 := Tryz.sizeOf3
  v3 := Tryz.zeroValue3
  t4 := Tryz.underlying4
  a4 := Tryz.isAgg4
  z4 := Tryz.sizeOf4
  v4 := Tryz.zeroValue4
  t5 := Tryz.underlying5
  a5 := Tryz.isAgg5
  z5 := Tryz.sizeOf5
  v5 := Tryz.zeroValue5
  t9 := Tryz.underlying9
  a9 := Tryz.isAgg9
  z9 := Tryz.sizeOf9
  v9 := Tryz.zeroValue9
  t46 := Tryz.underlying154
  a46 := Tryz.isAgg154
  z46 := Tryz.sizeOf154
  v46 := Tryz.zeroValue154
  t51 := Tryz.underlying217
  a51 := Tryz.isAgg217
  z51 := Tryz.sizeOf217
  v51 := Tryz.zeroValue217
  t59 := Tryz.underlying54
  a59 := Tryz.isAgg54
  z59 := Tryz.sizeOf54
  v59 := Tryz.zeroValue54
  t146 := Tryz.underlying229
  a146 := Tryz.isAgg229
  z146 := Tryz.sizeOf229
  v146 := Tryz.zeroValue229
  g1 := by kernel_rfl }
open Go.RowKit Go.Lib in
theorem Tryz.strings_Cut (s sep : ByteArray) (m : Int) (w : World) (hs : s.size < 4294967281) (hm : w.cell? ⟨2, 0, none⟩ = some (.int .i64 m)) :
    Calls Tryz.prog 150 #[.string s, .string sep] w fun e w' => e = .returned (.tuple #[.string ⟨(Lib.cut s.data.toList sep.data.toList).1.toArray⟩, .string ⟨(Lib.cut s.data.toList sep.data.toList).2.1.toArray⟩, .bool (Lib.cut s.data.toList sep.data.toList).2.2]) ∧ ∃ n, w' = w.drewN n := Any.strings_Cut Tryz.lays145 s sep m w hs hm
def Tryz.lays149_ren : Go.Shelf.Ren := ⟨fun | 149 => 83 | 222 => 148 | n => n, fun | 9 => 9 | 5 => 5 | 3 => 3 | 4 => 4 | n => n, fun | n => n⟩
theorem Tryz.lays149 : Go.Proofs.Lays.n149 Tryz.prog Tryz.lays149_ren := {
  mixed := by kernel_rfl
  f149 := Tryz.func83.trans (congrArg some krf)
  f222 := Tryz.func148.trans (congrArg some krf)
  t3 := Tryz.underlying3
  a3 := Tryz.isAgg3
  z3 := Tryz.sizeOf3
  v3 := Tryz.zeroValue3
  t4 := Tryz.underlying4
  a4 := Tryz.isAgg4
  z4 := Tryz.sizeOf4
  v4 := Tryz.zeroValue4
  t5 := Tryz.underlying5
  a5 := Tryz.isAgg5
  z5 := Tryz.sizeOf5
  v5 := Tryz.zeroValue5
  t9 := Tryz.underlying9
  a9 := Tryz.isAgg9
  z9 := Tryz.sizeOf9
  v9 := Tryz.zeroValue9 }
open Go.RowKit Go.Lib in
theorem Tryz.strings_LastIndexByte (s : ByteArray) (c : Int) (hs : s.size < 4611686018427387904) (w : World) :
    Calls Tryz.prog 83 #[.string s, .int .u8 c] w fun e w' => e = .returned (.int .i64 (Lib.lastIndexByte s c)) ∧ w' = w := Any.strings_LastIndexByte Tryz.lays149 s c hs w
def Tryz.lays146_ren : Go.Shelf.Ren := ⟨fun | 146 => 152 | 221 => 192 | 268 => 225 | 138 => 226 | 143 => 149 | 195 => 244 | 197 => 184 | 218 => 245 | 219 => 188 | 260 => 221 | 217 => 187 | 225 => 147 | 224 => 146 | 267 => 224 | 266 => 223 | 314 => 243 | n => n, fun | 9 => 9 | 31 => 70 | 3 => 3 | 4 => 4 | 0 => 0 | 105 => 180 | 21 => 21 | 5 => 5 | 46 => 154 | 119 => 225 | 139 => 228 | 138 => 227 | 146 => 229 | 51 => 217 | n => n, fun | 1 => 2 | 3 => 5 | 4 => 6 | n => n⟩
theorem Tryz.lays146 : Go.Proofs.Lays.n146 Tryz.prog Tryz.lays146_ren := {
  mixed := by kernel_rfl
  f138 := Tryz.func226.trans (congrArg some krf)
  f143 := Tryz.func149.trans (congrArg some krf)
  f146 := Tryz.func152.trans (congrArg some krf)
  f195 := Tryz.func244.trans (congrArg some krf)
  f197 := Tryz.func184.trans (congrArg some krf)
  f217 := Tryz.func187.trans (congrArg some krf)
  f218 := Tryz.func245.trans (congrArg some krf)
  f219 := Tryz.func188.trans (congrArg some krf)
  f221 := Tryz.func192.trans (congrArg some krf)
  f224 := Tryz.func146.trans (congrArg some krf)
  f225 := Tryz.func147.trans (congrArg some krf)
  f260 := Tryz.func221.trans (congrArg some krf)
  f266 := Tryz.func223.trans (congrArg some krf)
  f267 := Tryz.func224.trans (congrArg some krf)
  f268 := Tryz.func225.trans (congrArg some krf)
  f314 := Tryz.func243.trans (congrArg some krf)
  t0 := Tryz.underlying0
  a0 := Tryz.isAgg0
  z0 := Tryz.sizeOf0
  v0 := Tryz.zeroValue0
  t3 := Tryz.underlying3
  a3 := Tryz.isAgg3
  z3 := Tryz.sizeOf3
  v3 := Tryz.zeroValue3
  t4 := Tryz.underlying4
  a4 := Tryz.isAgg4
  z4 := Tryz.sizeOf4
  v4 := Tryz.zeroValue4
  t5 := Tryz.underlying5
  a5 := Tryz.isAgg5
  z5 := Tryz.sizeOf5
  v5 := Tryz.zeroValue5
  t9 := Tryz.underlying9
  a9 := Tryz.isAgg9
  z9 := Tryz.sizeOf9
  v9 := Tryz.zeroValue9
  t21 := Tryz.underlying21
  a21 := Tryz.isAgg21
  z21 := Tryz.sizeOf21
  v21 := Tryz.zeroValue21
  t31 := Tryz.underlying70
  a31 := Tryz.isAgg70
  z31 := Tryz.sizeOf70
  v31 := Tryz.zeroValue70
  t46 := Tryz.underlying154
  a46 := Tryz.isAgg154
  z46 := Tryz.sizeOf154
  v46 := Tryz.zeroValue154
  t51 := Tryz.underlying217
  a51 := Tryz.isAgg217
  z51 := Tryz.sizeOf217
  v51 := Tryz.zeroValue217
  t105 := Tryz.underlying180
  a105 := Tryz.isAgg180
  z105 := Tryz.sizeOf180
  v105 := Tryz.zeroValue180
  t119 := Tryz.underlying225
  a119 := Tryz.isAgg225
  z119 := Tryz.sizeOf225
  t138 := Tryz.underlying227
  a138 := Tryz.isAgg227
  z138 := Tryz.sizeOf227
  v138 := Tryz.zeroValue227
  t139 := Tryz.underlying228
  a139 := Tryz.isAgg228
  z139 := Tryz.sizeOf228
  v139 := Tryz.zeroValue228
  t146 := Tryz.underlying229
  a146 := Tryz.isAgg229
  z146 := Tryz.sizeOf229
  v146 := Tryz.zeroValue229
  g1 := by kernel_rfl
  g3 := by kernel_rfl
  g4 := by kernel_rfl }
open Go.RowKit Go.Lib in
theorem Tryz.strings_Split (s sep : ByteArray) (m : Int) (w : World) (hs : s.size < 4294967281) (hm : w.cell? ⟨2, 0, none⟩ = some (.int .i64 m)) (h1 : 1 ≤ sep.size) :
    Calls Tryz.prog 152 #[.string s, .string sep] w fun e w' =>
      e = .returned (.slice (some ⟨w.heap.size, 0, none⟩) (Lib.countB s sep + 1) (Lib.countB s sep + 1)) ∧ w' = w.alloc (.cells ((Lib.splitB sep 0 (Lib.countB s sep) s).map Value.string).toArray 9) := Any.strings_Split Tryz.lays146 krf s sep m w hs hm h1
def Tryz.lays153_ren : Go.Shelf.Ren := ⟨fun | 153 => 32 | 152 => 79 | 226 => 80 | 227 => 81 | 228 => 82 | 137 => 144 | 119 => 145 | 224 => 146 | 225 => 147 | 217 => 187 | 266 => 223 | n => n, fun | 9 => 9 | 3 => 3 | 4 => 4 | 5 => 5 | 21 => 21 | 117 => 93 | 116 => 92 | 0 => 0 | 46 => 154 | 124 => 151 | n => n, fun | n => n⟩
theorem Tryz.lays153 : Go.Proofs.Lays.n153 Tryz.prog Tryz.lays153_ren := {
  mixed := by kernel_rfl
  f119 := Tryz.func145.trans (congrArg some krf)
  f137 := Tryz.func144.trans (congrArg some krf)
  f152 := Tryz.func79.trans (congrArg some krf)
  f153 := Tryz.func32.trans (congrArg some krf)
  f217 := Tryz.func187.trans (congrArg some krf)
  f224 := Tryz.func146.trans (congrArg some krf)
  f225 := Tryz.func147.trans (congrArg some krf)
  f226 := Tryz.func80.trans (congrArg some krf)
  f227 := Tryz.func81.trans (congrArg some krf)
  f228 := Tryz.func82.trans (congrArg some krf)
  f266 := Tryz.func223.trans (congrArg some krf)
  t0 := Tryz.underlying0
  a0 := Tryz.isAgg0
  z0 := Tryz.sizeOf0
  v0 := Tryz.zeroValue0
  t3 := Tryz.underlying3
  a3 := Tryz.isAgg3
  z3 := Tryz.sizeOf3
  v3 := Tryz.zeroValue3
  t4 := Tryz.underlying4
  a4 := Tryz.isAgg4
  z4 := Tryz.sizeOf4
  v4 := Tryz.zeroValue4
  t5 := Tryz.underlying5
  a5 := Tryz.isAgg5
  z5 := Tryz.sizeOf5
  v5 := Tryz.zeroValue5
  t9 := Tryz.underlying9
  a9 := Tryz.isAgg9
  z9 := Tryz.sizeOf9
  v9 := Tryz.zeroValue9
  t21 := Tryz.underlying21
  a21 := Tryz.isAgg21
  z21 := Tryz.sizeOf21
  v21 := Tryz.zeroValue21
  t46 := Tryz.underlying154
  a46 := Tryz.isAgg154
  z46 := Tryz.sizeOf154
  v46 := Tryz.zeroValue154
  t116 := Tryz.underlying92
  a116 := Tryz.isAgg92
  z116 := Tryz.sizeOf92
  t117 := Tryz.underlying93
  a117 := Tryz.isAgg93
  z117 := Tryz.sizeOf93
  v117 := Tryz.zeroValue93
  t124 := Tryz.underlying151
  a124 := Tryz.isAgg151
  z124 := Tryz.sizeOf151
  v124 := Tryz.zeroValue151 }
open Go.RowKit Go.Lib in
theorem Tryz.strings_IndexAny_none (s chars : ByteArray) (w : World) (h0 : chars.size = 0) :
    Calls Tryz.prog 32 #[.string s, .string chars] w fun e w' => e = .returned (.int .i64 (Lib.indexAny s.data.toList chars.data.toList)) ∧ w' = w := Any.strings_IndexAny_none Tryz.lays153 s chars w h0
open Go.RowKit Go.Lib in
theorem Tryz.strings_IndexAny_one (s chars : ByteArray) (w : World) (h1 : chars.size = 1) (hascii : ∀ (j : Nat) b, chars.data.toList[j]? = some b → b.toNat < 128) :
    Calls Tryz.prog 32 #[.string s, .string chars] w fun e w' => e = .returned (.int .i64 (Lib.indexAny s.data.toList chars.data.toList)) ∧ w' = w := Any.strings_IndexAny_one Tryz.lays153 s chars w h1 hascii
open Go.RowKit Go.Lib in
theorem Tryz.strings_IndexAny_long (hv116 : ∀ w, (zeroValue 92).run Tryz.prog w = .ok (.agg (Array.replicate 256 (.bool false))) w) (s chars : ByteArray) (w : World) (h2 : 2 ≤ chars.size) (h8 : 8 < s.size) (hs : s.size < 4294967281) (hcs : chars.size < 4294967281) (hascii : ∀ (j : Nat) b, chars.data.toList[j]? = some b → b.toNat < 128) :
    Calls Tryz.prog 32 #[.string s, .string chars] w fun e w' => e = .returned (.int .i64 (Lib.indexAny s.data.toList chars.data.toList)) ∧ w' = ((w.alloc (.cells (Lib.setCells chars.data.toList) 92)).alloc (.cells (Lib.setCells chars.data.toList) 92)) := Any.strings_IndexAny_long Tryz.lays153 hv116 krf s chars w h2 h8 hs hcs hascii
open Go.RowKit Go.Lib in
theorem Tryz.strings_IndexAny_laid (s chars : ByteArray) (w : World) (hs : s.size < 4294967281) (hcs : chars.size < 4294967281) (has : ∀ (j : Nat) b, s.data.toList[j]? = some b → b.toNat < 128) (hac : ∀ (j : Nat) b, chars.data.toList[j]? = some b → b.toNat < 128) :
    Calls Tryz.prog 32 #[.string s, .string chars] w fun e w' => e = .returned (.int .i64 (Lib.indexAny s.data.toList chars.data.toList)) ∧ Below w.heap.size w w' := Any.strings_IndexAny_laid Tryz.lays153 krf s chars w hs hcs has hac
end Go.Proofs
set_option linter.unusedVariables false
namespace Go.Proofs
open Go.Wk Go.Px
def Vr (w : World) (g : Nat) (cs : List Value) : Prop := ∃ t f, w.heap[g]? = some (.cells cs.toArray t f)
theorem Vr.hp {w w' : World} {g : Nat} {cs : List Value} {S : List Nat} {L : List Res} (h : Vr w g cs) (hH : Hp w S L w') (hS : g ∉ S) : Vr w' g cs := by
  obtain ⟨t, f, e⟩ := h
  exact ⟨t, f, by rw [hH.below g (Array.getElem?_eq_some_iff.1 e).1 hS]; exact e⟩
theorem Vr.rd {w : World} {g : Nat} {cs : List Value} (h : Vr w g cs) : Rd w (some ⟨g, 0, none⟩) cs := by
  obtain ⟨t, f, e⟩ := h
  intro j v hv
  exact ⟨_, rfl, by cases j <;> simp [World.cell?, e, Addr.add, hv]⟩
structure Gl (w : World) : Prop where
  gs : 9 ≤ w.heap.size
  specials : Vr w 0 (List.flatMap eS akg)
  kinds : Vr w 1 (List.flatMap aps anc)
  classes : Vr w 3 (List.flatMap eS gl_classes)
  pow10 : Vr w 4 (Lib.pow10Tab.map fun z => Value.int .u64 z)
  maxlen : ∃ m, Vr w 2 [.int .i64 m]
theorem Gl.hp {w w' : World} {S : List Nat} {L : List Res} (h : Gl w) (hH : Hp w S L w') (hS : ∀ b ∈ S, 9 ≤ b) : Gl w' where
  gs := Nat.le_trans h.gs hH.size
  specials := h.specials.hp hH (fun hm => absurd (hS 0 hm) (by decide))
  kinds := h.kinds.hp hH (fun hm => absurd (hS 1 hm) (by decide))
  classes := h.classes.hp hH (fun hm => absurd (hS 3 hm) (by decide))
  pow10 := h.pow10.hp hH (fun hm => absurd (hS 4 hm) (by decide))
  maxlen := let ⟨m, hm⟩ := h.maxlen; ⟨m, hm.hp hH (fun hm => absurd (hS 2 hm) (by decide))⟩
theorem Gl.hp0 {w w' : World} {L : List Res} (h : Gl w) (hH : Hp w [] L w') : Gl w' := h.hp hH (by simp)
theorem _root_.Go.Wk.Hp.highs {w0 w : World} {S : List Nat} {L L1 : List Res} (h : Hp w0 S L w) (hG : Gl w0) (hS : ∀ x ∈ S, 9 ≤ x) (m : Nat) (hL : L.take m = L1) : ∀ b ∈ abh L1, 9 ≤ b := by
  intro b hb
  obtain ⟨r, hr, e⟩ := mem_owns hb
  subst hL
  rcases ((h.res r (List.mem_of_mem_take hr)).2 b e).2 with h1 | h1
  · exact Nat.le_trans hG.gs h1
  · exact hS b h1
theorem Gl.cell {w : World} (h : Gl w) : ∃ m, w.cell? ⟨2, 0, none⟩ = some (.int .i64 m) := by
  obtain ⟨m, t, f, e⟩ := h.maxlen
  exact ⟨m, by simp [World.cell?, e]⟩
end Go.Proofs
set_option linter.unusedSimpArgs false
set_option maxRecDepth 20000
namespace Go.Proofs
open Go.Wk Go.Px
open Go.Value renaming slice → Vs, int → Vi, bool → Vb, pointer → Vp
open Go.Lib renaming cut → zaK, index → zaq, indexAny → zaC, join → zaB, trimLeftS → zaD
open List renaming flatMap → zai
open Nat renaming lt_of_lt_of_le → zaj, lt_succ_self → zad
theorem amx (s : List UInt8) (c : UInt8) (w : World) : CR Tryz.prog 144 [str s, bt c] w fun v w' => v = .int .i64 (ixb (· == c) s) ∧ Hp w [] [] w' := by
  have h := Tryz.strings_IndexByte ⟨s.toArray⟩ (c.toNat : Int) w
  rw [show ((c.toNat : Int).toNat.toUInt8) = c by simp] at h
  rw [← indexByte_ixb]
  exact cr_same h
theorem sh_LastIndexByte (s : List UInt8) (c : UInt8) (w : World) (hs : s.length ≤ 1000000000) : CR Tryz.prog 83 [str s, bt c] w fun v w' => v = .int .i64 (ans (· == c) s) ∧ Hp w [] [] w' := by
  have h := Tryz.strings_LastIndexByte ⟨s.toArray⟩ (c.toNat : Int) (by show s.length < _; omega) w
  rw [lastIndexByte_lixb] at h
  exact cr_same h
theorem sh_Contains (s t : List UInt8) (w : World) (hs : s.length ≤ 1000000000) (hG : Gl w) : CR Tryz.prog 84 [str s, str t] w fun v w' => v = .bool (Lib.contains s t) ∧ Hp w [] [] w' := by
  obtain ⟨m, hm⟩ := hG.cell
  exact cr_same (Tryz.strings_Contains ⟨s.toArray⟩ ⟨t.toArray⟩ m w (by show s.length < _; omega) hm)
theorem sh_Index (s t : List UInt8) (w : World) (hs : s.length ≤ 1000000000) (hG : Gl w) : CR Tryz.prog 149 [str s, str t] w fun v w' => v = .int .i64 (zaq s t) ∧ Hp w [] [] w' := by
  obtain ⟨m, hm⟩ := hG.cell
  exact cr_same (Tryz.strings_Index ⟨s.toArray⟩ ⟨t.toArray⟩ m w (by show s.length < _; omega) hm)
theorem sh_Cut (s t : List UInt8) (w : World) (hs : s.length ≤ 1000000000) (hG : Gl w) : CR Tryz.prog 150 [str s, str t] w fun v w' => v = .tuple #[str (zaK s t).1, str (zaK s t).2.1, .bool (zaK s t).2.2] ∧ Hp w [] [] w' := by
  obtain ⟨m, hm⟩ := hG.cell
  exact cr_drew (Tryz.strings_Cut ⟨s.toArray⟩ ⟨t.toArray⟩ m w (by show s.length < _; omega) hm)
theorem sh_Trim (s t : List UInt8) (w : World) (hs : s.length ≤ 1000000000) (ht : t.length ≤ 1000 ∧ t.all (fun b => decide (b.toNat < 128)) = true) : CR Tryz.prog 75 [str s, str t] w fun v w' => v = str (Lib.trimS s t) ∧ Hp w [] [] w' := by
  exact cr_below (Any.strings_Trim_laid Tryz.lays160 krf ⟨s.toArray⟩ ⟨t.toArray⟩ w (by show s.length ≤ _; omega) (by show t.length < _; omega) (ascii_of_all ht.2))
theorem sh_TrimLeft (s t : List UInt8) (w : World) (hs : s.length ≤ 1000000000) (ht : t.length ≤ 1000 ∧ t.all (fun b => decide (b.toNat < 128)) = true) : CR Tryz.prog 191 [str s, str t] w fun v w' => v = str (zaD s t) ∧ Hp w [] [] w' := by
  exact cr_below (Any.strings_TrimLeft_laid Tryz.lays161 krf ⟨s.toArray⟩ ⟨t.toArray⟩ w (by show t.length < _; omega) (ascii_of_all ht.2))
theorem sh_TrimRight (s t : List UInt8) (w : World) (hs : s.length ≤ 1000000000) (ht : t.length ≤ 1000 ∧ t.all (fun b => decide (b.toNat < 128)) = true) : CR Tryz.prog 205 [str s, str t] w fun v w' => v = str (Lib.trimRightS s t) ∧ Hp w [] [] w' := by
  exact cr_below (Any.strings_TrimRight_laid Tryz.lays162 krf ⟨s.toArray⟩ ⟨t.toArray⟩ w (by show s.length ≤ _; omega) (by show t.length < _; omega) (ascii_of_all ht.2))
theorem sh_Itoa (i : Int) (w : World) (hi : abx i) (hG : Gl w) : CR Tryz.prog 50 [.int .i64 i] w fun v w' => v = str (Lib.itoa i) ∧ Hp w [] [] w' := by
  obtain ⟨t, f, e⟩ := hG.pow10
  have hT : Lib.TabIs Tryz.prog w "internal/strconv.uint64pow10" .u64 Lib.pow10Tab := by
    unfold Lib.TabIs World.var?
    rw [show Tryz.prog.globalNamed "internal/strconv.uint64pow10" = some 4 by kernel_rfl]
    simp [e]
  have h := Tryz.strconv_Itoa i hi.1 hi.2 w hT
  exact Calls.mono h fun _ _ ⟨e, k, os, hb⟩ => ⟨_, e, rfl, hb ▸ hp_grow k os⟩
theorem sh_Split (s : List UInt8) (c : UInt8) (w : World) (hs : s.length ≤ 1000000000) (hG : Gl w) : CR Tryz.prog 152 [str s, str [c]] w fun v w' => ∃ o a cap, v = .slice a (spl c s).length cap ∧ Hp w [] [rwt eS 9 1 o a cap (spl c s)] w' := by
  obtain ⟨m, hm⟩ := hG.cell
  have h := Tryz.strings_Split ⟨s.toArray⟩ ⟨#[c]⟩ m w (by show s.length < _; omega) hm (by show 1 ≤ 1; omega)
  rw [split_spl, split_spl_len] at h
  refine Calls.mono h ?_
  rintro _ _ ⟨rfl, rfl⟩
  have h1 := (Hp.refl w).alloc ((spl c s).map str) 9
  have := (arh c s).1
  have e : (spl c s).flatMap eS = (spl c s).map str := by
    generalize spl c s = l
    induction l with
    | nil => rfl
    | cons x l ih => rw [List.flatMap_cons, ih]; rfl
  exact ⟨_, rfl, some w.heap.size, _, _, rfl, h1.blkrw 0 1 (spl c s).length (spl c s) rfl apr e rfl (by simp [maxLen]; omega)⟩
theorem flatS (l : List (List UInt8)) : l.flatMap eS = l.map str := by
  induction l with
  | nil => rfl
  | cons x l ih => rw [List.flatMap_cons, ih]; rfl
theorem sh_Join (t : List UInt8) (w : World) (a : Option Addr) (n cap : Nat) (xs : List (List UInt8)) (hn : n = xs.length) (hRe : Rd w a (xs.flatMap eS)) (hCa : n ≤ cap) (hN : xs.length ≤ 1000000000 ∧ (zaB xs t).length ≤ 100000000000) : CR Tryz.prog 59 [.slice a n cap, str t] w fun v w' => v = str (zaB xs t) ∧ Hp w [] [] w' := by
  subst hn
  rw [flatS] at hRe
  cases xs with
  | nil => exact cr_same (Tryz.strings_Join_none a cap ⟨t.toArray⟩ w)
  | cons x r =>
    obtain ⟨p, rfl, hp⟩ := hRe 0 (str x) (by simp)
    have hbk := cell_lt hp
    rw [add_block] at hbk
    have hsp : p.spot = none := by
      have := rd_spot hp
      simpa [Addr.add] using this
    obtain ⟨bk, o, sp⟩ := p
    simp only at hsp hbk
    subst hsp
    have e : ((x :: r).map fun l => (⟨l.toArray⟩ : ByteArray)).map (·.data.toList) = x :: r := by rw [List.map_map]; exact List.map_id _
    have h := Tryz.strings_Join bk o cap ((x :: r).map fun l => (⟨l.toArray⟩ : ByteArray)) ⟨t.toArray⟩ w (fun j y hy => by
      have := row_strs ⟨bk, o, none⟩ (x :: r) hRe j y hy
      cases j <;> simpa [Addr.add] using this) hbk (by rw [List.length_map]; omega) (by rw [List.length_map]; exact hCa) (by rw [e]; show (zaB (x :: r) t).length ≤ _; omega)
    rw [e, List.length_map] at h
    exact cr_below h
theorem sh_IndexAny (s t : List UInt8) (w : World) (h : s.length ≤ 1000000000 ∧ t.length ≤ 1000 ∧ t.all (fun b => decide (b.toNat < 128)) = true ∧ (8 < s.length ∨ t.length ≤ 1 ∨ s.all (fun b => decide (b.toNat < 128)) = true)) : CR Tryz.prog 32 [str s, str t] w fun v w' => v = .int .i64 (zaC s t) ∧ Hp w [] [] w' := by
  obtain ⟨h1, h2, h3, h4⟩ := h
  by_cases h0 : t.length = 0
  · exact cr_same (Tryz.strings_IndexAny_none ⟨s.toArray⟩ ⟨t.toArray⟩ w h0)
  by_cases h1' : t.length = 1
  · exact cr_same (Tryz.strings_IndexAny_one ⟨s.toArray⟩ ⟨t.toArray⟩ w h1' (ascii_of_all h3))
  rcases h4 with h4 | h4 | h4
  · have hz : ∀ w, (zeroValue 92).run Tryz.prog w = .ok (.agg (Array.replicate 256 (.bool false))) w := (zero_of_info (n := 256) krf).1
    have h := Tryz.strings_IndexAny_long hz ⟨s.toArray⟩ ⟨t.toArray⟩ w (by show 2 ≤ t.length; omega) (by show 8 < s.length; omega) (by show s.length < _; omega) (by show t.length < _; omega) (ascii_of_all h3)
    refine Calls.mono h ?_
    rintro _ _ ⟨rfl, rfl⟩
    exact ⟨_, rfl, rfl, Hp.ofBelow ⟨rfl, rfl, rfl, by simp; omega, fun k hk => by rw [RowKit.Below.heap_alloc _ _ k (by simp; omega), RowKit.Below.heap_alloc _ _ k hk]⟩⟩
  · omega
  · exact cr_below (Tryz.strings_IndexAny_laid ⟨s.toArray⟩ ⟨t.toArray⟩ w (by show s.length < _; omega) (by show t.length < _; omega) (ascii_of_all h4) (ascii_of_all h3))
theorem sh_Clone68 (l : List PQ) (w : World) (a : Option Addr) (n cap : Nat) (hn : n = l.length) (hR : Rd w a (l.flatMap aaa)) (hb : (0 + l.length) * 40 ≤ 140737488355328) : CR Tryz.prog 68 [.slice a n cap] w fun v w' => ∃ o a' cap', v = .slice a' l.length cap' ∧ Hp w [] [rwt aaa 65 3 o a' cap' l] w' := by
  subst hn
  have hH : Hp w [] [] w := Hp.refl w
  refine enter (k := 8) Tryz.func68 rfl rfl (Nat.le_of_ble_eq_true rfl) ?_
  refine c_seq ?_
  refine aok ?_
  refine w_assign (Vs none 0 0) krf ?_
  refine w_nil ?_
  refine q_next ?_
  refine c_seq ?_
  refine c_seq ?_
  refine aok ?_
  refine w_move (Vs a l.length cap) krf ?_
  refine w_snil a l.length cap 65 Tryz.underlying22 krf krf ?_
  refine w_nil ?_
  refine q_next ?_
  refine c_bool (b := a.isNone) krf (fun h => ?_) (fun h => ?_)
  · have ha : a = none := by cases a with | none => rfl | some p => cases h
    subst ha
    have hl : l = [] := by
      cases l with
      | nil => rfl
      | cons x l =>
        exfalso
        have h1 := Enc.flat aab (x :: l)
        have h2 : (zai aaa (x :: l)).length = 0 := by
          cases hq : zai aaa (x :: l) with
          | nil => rfl
          | cons u us => obtain ⟨p, hp, _⟩ := hR 0 u (by rw [hq]; rfl); cases hp
        rw [h2] at h1
        simp at h1
    subst hl
    refine c_seq ?_
    refine aok ?_
    refine w_assign (Vs none 0 0) krf ?_
    refine w_nil ?_
    refine q_next ?_
    refine c_ret ?_
    refine s_ret ?_
    refine r_one (Vs none 0 0) rfl krf ?_
    exact ⟨none, none, 0, rfl, Hp.nilrw hH aaa 65 3 none⟩
  · refine c_skip ?_
    refine q_next ?_
    refine c_seq ?_
    refine aok ?_
    refine adr hH [] 65 (fun b => (Vs (some ⟨b, 0, none⟩) 0 0)) rfl rfl krf ?_
    intro b1 w2 a0
    have a1 : Hp w [] [rwt aaa 65 3 (some b1) (some ⟨b1, 0, none⟩) 0 ([] : List PQ)] w2 := a0.blkrw 0 3 0 ([] : List PQ) rfl aab rfl rfl (by decide)
    refine w_move (Vs a l.length cap) krf ?_
    refine adm a1 0 (some b1) (some ⟨b1, 0, none⟩) a 0 cap 65 3 40 ([] : List PQ) l aab rfl Tryz.underlying22 (by unfold TI; kernel_rfl) (by decide) (by decide) krf krf (hR.hp a0) hb ?_
    intro o5 a6 cap7 w8 a2
    refine w_assign (Vs a6 l.length cap7) krf ?_
    refine w_nil ?_
    refine q_next ?_
    refine c_ret ?_
    refine r_one (Vs a6 l.length cap7) rfl krf ?_
    exact ⟨o5, a6, cap7, rfl, a2⟩
theorem sh_copyCheck (b : Nat) (z : Bool) (s : Value) (w : World) (hM : Hp w (abh [blk b [Vp (bif z then some ⟨b, 0, none⟩ else none), s] 111]) [blk b [Vp (bif z then some ⟨b, 0, none⟩ else none), s] 111] w) : CR Tryz.prog 165 [Vp (some ⟨b, 0, none⟩)] w fun v w' => v = .tuple #[] ∧ Hp w (abh [blk b [Vp (bif z then some ⟨b, 0, none⟩ else none), s] 111]) [blk b [Vp (some ⟨b, 0, none⟩), s] 111] w' := by
  cases z with
  | false =>
    have hH : Hp w (abh [blk b [(Vp none), s] 111]) [blk b [(Vp none), s] 111] w := hM
    refine enter (k := 20) Tryz.func165 rfl rfl (Nat.le_of_ble_eq_true rfl) ?_
    refine c_seq ?_
    refine aok ?_
    refine w_move (Vp (some ⟨b, 0, none⟩)) krf ?_
    refine aes (v := (Vp (some ⟨b, 0, none⟩))) (w' := w) rfl rfl krf ?_
    refine aes (v := (Vp (some ⟨b, 0, none⟩))) (w' := w) rfl rfl krf ?_
    refine abs hH 0 b 0 [(Vp none), s] 111 (Vp none) rfl rfl krf krf ?_
    refine w_pnil none Tryz.underlying109 krf krf ?_
    refine w_nil ?_
    refine q_next ?_
    refine c_true krf ?_
    refine aok ?_
    refine w_move (Vp (some ⟨b, 0, none⟩)) krf ?_
    refine w_move (Vp (some ⟨b, 0, none⟩)) krf ?_
    refine w_toUns hH 0 b 0 111 [(Vp none), s] rfl Tryz.underlying109 Tryz.underlying191 krf (by simp) krf ?_
    refine w_noEsc hH 199 (Vp (some ⟨b, 0, none⟩)) krf krf Tryz.func199 krf krf krf krf ?_
    intro w1 a0
    refine w_ofUns a0 0 b 0 111 [(Vp none), s] rfl Tryz.underlying191 Tryz.underlying109 krf krf krf ?_
    refine aes (v := (Vp (some ⟨b, 0, none⟩))) (w' := w1) rfl rfl krf ?_
    refine aes (v := (Vp (some ⟨b, 0, none⟩))) (w' := w1) rfl rfl krf ?_
    refine aib a0 0 b 0 [(Vp none), s] 111 (Vp (some ⟨b, 0, none⟩)) [blk b [(Vp (some ⟨b, 0, none⟩)), s] 111] rfl (zaj (zad _) (Nat.le_of_ble_eq_true rfl)) krf krf rfl krf rfl ?_
    intro w3 a1
    refine w_nil ?_
    refine aju  rfl  ?_
    exact ⟨rfl, a1.kp⟩
  | true =>
    have hH : Hp w (abh [blk b [(Vp (some ⟨b, 0, none⟩)), s] 111]) [blk b [(Vp (some ⟨b, 0, none⟩)), s] 111] w := hM
    refine enter (k := 20) Tryz.func165 rfl rfl (Nat.le_of_ble_eq_true rfl) ?_
    refine c_seq ?_
    refine aok ?_
    refine w_move (Vp (some ⟨b, 0, none⟩)) krf ?_
    refine aes (v := (Vp (some ⟨b, 0, none⟩))) (w' := w) rfl rfl krf ?_
    refine aes (v := (Vp (some ⟨b, 0, none⟩))) (w' := w) rfl rfl krf ?_
    refine abs hH 0 b 0 [(Vp (some ⟨b, 0, none⟩)), s] 111 (Vp (some ⟨b, 0, none⟩)) rfl rfl krf krf ?_
    refine w_pnil (some ⟨b, 0, none⟩) Tryz.underlying109 krf krf ?_
    refine w_nil ?_
    refine q_next ?_
    refine arp krf ?_
    refine c_seq ?_
    refine aok ?_
    refine w_move (Vp (some ⟨b, 0, none⟩)) krf ?_
    refine aes (v := (Vp (some ⟨b, 0, none⟩))) (w' := w) rfl rfl krf ?_
    refine aes (v := (Vp (some ⟨b, 0, none⟩))) (w' := w) rfl rfl krf ?_
    refine abs hH 0 b 0 [(Vp (some ⟨b, 0, none⟩)), s] 111 (Vp (some ⟨b, 0, none⟩)) rfl rfl krf krf ?_
    refine w_move (Vp (some ⟨b, 0, none⟩)) krf ?_
    refine w_pself ⟨b, 0, none⟩ Tryz.underlying109 krf krf krf ?_
    refine w_nil ?_
    refine q_next ?_
    refine arp krf ?_
    refine c_skip ?_
    refine aju  rfl  ?_
    exact ⟨rfl, hH.kp⟩
theorem sh_BString (b : Nat) (z : Bool) (o : Option Nat) (a : Option Addr) (cap : Nat) (l : Str) {w0 w : World} {L : List Res} (hH : Hp w0 [] L w) (kb kr : Nat) (hb : L[kb]? = some (blk b [Vp (bif z then some ⟨b, 0, none⟩ else none), .slice a l.length cap] 111)) (hr : L[kr]? = some (rwt eB 5 1 o a cap l)) (hne : Nat.beq kb kr = false) :
    CR Tryz.prog 105 [Vp (some ⟨b, 0, none⟩)] w fun v w' => v = str l ∧ Hp w0 [] [] w' := by
  have hbk := hH.blkAt kb hb
  have hB : w0.heap.size ≤ b := by
    have := ((hH.res _ (List.mem_of_getElem? hb)).2 b rfl).2
    simpa using this
  have hcells : Lib.byteCells l = l.flatMap eB := by rw [flat_eB]; rfl
  have hrow : ∃ v, w.heap[b]? = some (.cells #[Vp (bif z then some ⟨b, 0, none⟩ else none), v] 111 (0, 0)) ∧ w.ownsRow w0.heap.size 5 1 v (Lib.byteCells l).length (Lib.byteCells l) ∧ v.ownBlock ≠ some b := by
    refine ⟨.slice a l.length cap, hbk, ?_, ?_⟩
    · rw [hcells, akh.flat l, Nat.mul_one]
      obtain ⟨h1, h2⟩ := hH.res _ (List.mem_of_getElem? hr)
      rcases h1 with ⟨_, rfl, rfl, rfl⟩ | ⟨g, cur, ho, rfl, hob, a0, a1, a2, htk⟩
      · exact ⟨by simp, .inl ⟨rfl, rfl⟩⟩
      · have ho' : o = some g := ho
        subst ho'
        have hg : w0.heap.size ≤ g := by simpa using (h2 g rfl).2
        exact ⟨by rw [akh.flat], .inr ⟨g, cap, cur, rfl, hg, hob, a0, a1, a2, htk⟩⟩
    · intro hv
      obtain ⟨h1, h2⟩ := hH.res _ (List.mem_of_getElem? hr)
      rcases h1 with ⟨_, rfl, rfl, rfl⟩ | ⟨g, cur, ho, rfl, hob, a0, a1, a2, htk⟩
      · cases hv
      · have ho' : o = some g := ho
        have hgb : g = b := by simpa [Value.ownBlock] using hv
        have hkb : kb < L.length := (List.getElem?_eq_some_iff.1 hb).1
        have hkr : kr < L.length := (List.getElem?_eq_some_iff.1 hr).1
        have hkk : kb ≠ kr := fun e => by subst e; simp at hne
        have hp := List.pairwise_iff_getElem.1 hH.sep
        have e1 := (List.getElem?_eq_some_iff.1 hb).2
        have e2 := (List.getElem?_eq_some_iff.1 hr).2
        rcases Nat.lt_or_ge kb kr with h5 | h5
        · have := hp kb kr hkb hkr h5 b
          rw [e1, e2] at this
          exact this rfl (by show o = some b; rw [ho', hgb])
        · have := hp kr kb hkr hkb (by omega) b
          rw [e1, e2] at this
          exact this (by show o = some b; rw [ho', hgb]) rfl
  have hI : Lib.IsBuilder 111 5 w0.heap.size b (Lib.byteCells l) w := by
    cases z with
    | false => exact .inl ⟨hB, hrow⟩
    | true => exact .inr ⟨hB, hrow⟩
  have h := Tryz.Builder_String_any w0.heap.size b l w hI hH.size
  refine Calls.mono h ?_
  rintro _ w' ⟨rfl, hw⟩
  exact ⟨_, rfl, rfl, ⟨hw.os.trans hH.os, hw.tape.trans hH.tape, hw.output.trans hH.output, Nat.le_trans hH.size hw.size, fun k hk _ => (hw.block k hk).trans (hH.below k hk (by simp)), fun r hr => by simp at hr, List.Pairwise.nil⟩⟩
end Go.Proofs
set_option maxHeartbeats 1000000
namespace Go.Proofs
open Go.Wk Go.Px
open Go.Value renaming slice → Vs, int → Vi, bool → Vb, pointer → Vp
open Go.IntKind renaming wrap → zaa
open Int renaming toNat → zac
open List renaming drop → zam, set → zal
open Nat renaming lt_succ_self → zad
open Tryz
abbrev Zz0 (v0 : List PQ) v1 := [(str ((el v0 v1).1)), (str ((el v0 v1).2.1)), (Vb ((el v0 v1).2.2))]
abbrev Zz1 := [(str ([] : Str)), (str ([] : Str)), (str ([] : Str)), (str ([] : Str)), (Vi .i64 (0 : Int)), (Vs none 0 0), (Vs none 0 0), (Vs none 0 0)]
abbrev Zz2 v0 v1 v2 v3 v4 v5 v6 v7 v8 v9 := [(str v0), (str v1), (str v2), (Vi .i64 v3), (Vs v4 v5 v6), (Vs v7 v8 v9)]
abbrev Zz3 := [(str ([] : Str)), (str ([] : Str)), (str ([] : Str)), (Vi .i64 (0 : Int)), (Vs none 0 0), (Vs none 0 0)]
abbrev Zz4 := [(str ([] : Str)), (str ([] : Str)), (Vi .i64 (0 : Int)), (str ([] : Str)), (Vs none 0 0)]
abbrev Zz5 v0 v1 v2 v3 v4 v5 v6 v7 v8 v9 v10 v11 v12 v13 := [(str v0), (str v1), (str v2), (str v3), (Vi .i64 v4), (Vs v5 v6 v7), (Vs v8 v9 v10), (Vs v11 v12 v13)]
abbrev Zz6 := [(str ([] : Str)), (str ([] : Str)), (Vb false)]
abbrev Zz7 v0 v1 v2 v3 v4 v5 v6 := [(str v0), (str v1), (Vi .i64 v2), (str v3), (Vs v4 v5 v6)]
abbrev Zz8 v0 v1 := [(str v0), (Vi .i64 v1)]
abbrev Zz9 (v0 : List PQ) v1 := [(str ((el v0 (v1 - (1 : Int))).1)), (str ((el v0 (v1 - (1 : Int))).2.1)), (Vb ((el v0 (v1 - (1 : Int))).2.2))]
abbrev Zz10 v0 v1 v2 v3 := [rwt aaa 65 3 v0 v1 v2 v3]
abbrev Zz11 v0 v1 v2 (v3 : List PQ) v4 := [rwt aaa 65 3 v0 v1 v2 (zal (zal v3 (zac v4) ((el v3 (v4 - (1 : Int))).1, (el v3 (v4 - (1 : Int))).2.1, ((el v3 (v4 - (1 : Int))).2.2))) (zac (v4 - (1 : Int))) ((el v3 v4).1, (el v3 v4).2.1, ((el v3 v4).2.2)))]
abbrev Zz12 := [2, 3, 4, 5, 6, 7, 8, 9, 10, 11, 12, 13, 14, 15, 16, 17, 18, 19, 20, 21, 22, 23, 24, 25, 26, 27, 28, 29, 30, 31, 32, 33, 34, 35, 36]
abbrev Zz13 := [false, false, false, false, false, false, false, false, false, false, false, false, false, false, false, false, false, false, false, false, false, false, false, false, false, false, false, false, false, false, false, false, false, false, false, false, false]
abbrev Zz14 := [true, true, false, false, false, false, false, false, false, false, false, false, false, false, false, false, false, false, false, false, false, false, false, false, false, false, false, false, false, false, false, false, false, false, false, false, false]
abbrev Zz15 (v0 : List PQ) v1 v2 := [(str ((el v0 (v1 + v2)).1)), (str ((el v0 (v1 + v2)).2.1)), (Vb ((el v0 (v1 + v2)).2.2))]
abbrev Zz16 := [true, true, true, true, true, true, true, false, false, false, false, false, false, false, false, false, false, false, false, false, false, false, false, false, false, false, false, false, false, false, false, false, false, false, false, false, false]
abbrev Zz17 := [true, true, true, true, true, true, true, false, true, true, false, false, false, false, false, false, false, false, false, false, false, false, false, false, false, false, false, false, false, false, false, false, false, false, false, false, false]
abbrev Zz18 := [7, 10, 11, 12, 13, 14, 15, 16, 17, 18, 19, 20, 21, 22, 23, 24, 25, 26, 27, 28, 29, 30, 31, 32, 33, 34, 35, 36]
abbrev Zz19 := [10, 11, 12, 13, 14, 15, 16, 17, 18, 19, 20, 21, 22, 23, 24, 25, 26, 27, 28, 29, 30, 31, 32, 33, 34, 35, 36]
abbrev Zz20 v0 v1 v2 v3 := [(Vp (some ⟨v0, 0, none⟩)), (Vs v1 v2 v3)]
abbrev Zz21 v0 v1 v2 (v3 : List PQ) v4 := [rwt aaa 65 3 v0 v1 v2 (zal v3 (zac v4) ((el v3 (v4 - (1 : Int))).1, (el v3 (v4 - (1 : Int))).2.1, ((el v3 (v4 - (1 : Int))).2.2)))]
abbrev Zz22 v0 := [(str v0), (str ([] : Str)), (str ([] : Str)), (Vi .i64 (0 : Int)), (Vs none 0 0), (Vs none 0 0)]
abbrev Zz23 v0 v1 v2 v3 := [(str v0), (str ([] : Str)), (Vb (decide ((0 : Int) ≤ (ixb (· == (61 : UInt8)) (sub v1 v2 v3)))))]
abbrev Zz24 v0 := [(str v0), (str ([] : Str)), (Vb false)]
abbrev Zz25 := [true, true, true, true, true, true, true, true, true, true, true, true, true, true, true, false, false, false, false, false, false, false, false, false, false, false, false, false, false, false, false, false, false, false, false, false, false]
abbrev Zz26 v0 v1 v2 v3 := [(str v0), (str v1), (str v2), (Vi .i64 v3), (Vs none 0 0), (Vs none 0 0)]
abbrev Zz27 (v0 : List PQ) v1 := [(str ((el v0 (v1 + (1 : Int))).1)), (str ((el v0 (v1 + (1 : Int))).2.1)), (Vb ((el v0 (v1 + (1 : Int))).2.2))]
abbrev Zz28 := [15, 16, 17, 18, 19, 20, 21, 22, 23, 24, 25, 26, 27, 28, 29, 30, 31, 32, 33, 34, 35, 36]
abbrev Zz29 := [true, true, true, true, true, true, true, true, true, true, true, true, true, false, false, false, false, false]
abbrev Zz30 v0 v1 v2 (v3 : List PQ) v4 := [rwt aaa 65 3 v0 v1 v2 (zal (zal v3 (zac v4) ((el v3 (v4 + (1 : Int))).1, (el v3 (v4 + (1 : Int))).2.1, ((el v3 (v4 + (1 : Int))).2.2))) (zac (v4 + (1 : Int))) ((el v3 v4).1, (el v3 v4).2.1, ((el v3 v4).2.2)))]
abbrev Zz31 v0 v1 v2 (v3 : List PQ) v4 v5 v6 := [rwt aaa 65 3 v0 v1 v2 (zal (zal v3 (zac (v4 + v5)) ((el v3 (v6 + v5)).1, (el v3 (v6 + v5)).2.1, ((el v3 (v6 + v5)).2.2))) (zac (v6 + v5)) ((el v3 (v4 + v5)).1, (el v3 (v4 + v5)).2.1, ((el v3 (v4 + v5)).2.2)))]
abbrev Zz32 v0 v1 v2 := [(str v0), (str v1), (Vi .i64 v2), (str ([] : Str)), (Vs none 0 0)]
abbrev Zz33 v0 v1 v2 v3 v4 := [(Vp (bif v0 then some ⟨v1, 0, none⟩ else none)), (Vs v2 v3 v4)]
abbrev Zz34 := [true, true, true, true, true, true, true, true, true, false, true, true, true, true, false, false, false, false]
abbrev Zz35 := [true, true, true, true, true, true, true, true, true, true, true, true, true, true, true, true, true, true, true, true, true, false, false, false, false, false, false, false, false, false, false, false, false, false, false, false, false]
abbrev Zz36 v0 v1 v2 := [(str v0), (str v1), (str ([] : Str)), (Vi .i64 v2), (Vs none 0 0), (Vs none 0 0)]
abbrev Zz37 := [false, false, false, false, false, false, false, false, false, false, false, false, false, false, false, false, false]
abbrev Zz38 v0 := [(str v0), (Vi .i64 ((ixb (· == (58 : UInt8)) v0) + (1 : Int)))]
abbrev Zz39 v0 v1 := [(str v0), (str v1), (Vb true)]
abbrev Zz40 v0 v1 v2 := [blk v0 (Zz8 v1 v2) 99]
abbrev Zz41 v0 (v1 : List PQ) v2 := [(str v0), (str ((el v1 v2).2.1)), (Vb ((el v1 v2).2.2))]
abbrev Zz42 v0 v1 v2 := [(str v0), (str v1), (Vb v2)]
abbrev Zz43 v0 := [(str v0), (str ([] : Str)), (Vb true)]
abbrev Zz44 v0 v1 := [(str v0), (Vi .i64 (v1 + (1 : Int)))]
abbrev Zz45 v0 := [(Vp (some ⟨v0, 0, none⟩))]
abbrev Zz46 v0 v1 v2 v3 v4 v5 := [blk v0 (Zz20 v0 v1 v2 v3) 111, rwt eB 5 1 v4 v1 v3 v5]
abbrev Zz47 v0 v1 := [(str v0), (str v1), (Vi .i64 (0 : Int)), (str ([] : Str)), (Vs none 0 0)]
abbrev Zz48 := [21, 22, 23, 24, 25, 26, 27, 28, 29, 30, 31, 32, 33, 34, 35, 36]
abbrev Zz49 := [(str ([67, 97, 108, 108, 45, 73, 68] : Str)), (str ([67, 83, 101, 113] : Str)), (str ([77, 73, 77, 69, 45, 86, 101, 114, 115, 105, 111, 110] : Str)), (str ([77, 105, 110, 45, 83, 69] : Str)), (str ([82, 65, 99, 107] : Str)), (str ([82, 83, 101, 113] : Str)), (str ([87, 87, 87, 45, 65, 117, 116, 104, 101, 110, 116, 105, 99, 97, 116, 101] : Str))]
abbrev Zz50 v0 v1 v2 (v3 : List PQ) v4 := [rwt aaa 65 3 v0 v1 v2 (zal v3 (zac v4) ((el v3 (v4 + (1 : Int))).1, (el v3 (v4 + (1 : Int))).2.1, ((el v3 (v4 + (1 : Int))).2.2)))]
abbrev Zz51 := [false, false, false, false, false, false, false, false, false, false, false, false]
abbrev Zz52 := [2, 3, 4, 5, 6, 7, 8, 9, 10, 11, 12, 13, 14, 15, 16, 17, 18, 19]
abbrev Zz53 v0 v1 v2 (v3 : List PQ) v4 v5 v6 := [rwt aaa 65 3 v0 v1 v2 (zal v3 (zac (v4 + v5)) ((el v3 (v6 + v5)).1, (el v3 (v6 + v5)).2.1, ((el v3 (v6 + v5)).2.2)))]
abbrev Zz54 := [false, false, false, false, false, false, false, false, false, false, false, false, false, false, false, false, false, false, false, false]
abbrev Zz55 := [true, true, false, false, false, false, false, false, false, false, false, false, false, false, false, false, false, false, false, false]
abbrev Zz56 : Str := [83, 73, 80, 47, 50, 46, 48, 47]
abbrev Zz57 := [true, true, true, true, true, true, true, true, true, true, true, true, true, true, true, true, true, true, true, true, true, true, true, true, true, false, false, false, false, false, false, false, false, false, false, false, false]
abbrev Zz58 := [true, true, true, true, true, true, true, true, true, true, true, true, true, true, true, true, true, true, true, true, true, true, true, true, true, true, true, true, true, true, true, true, true, true, false, false, false]
abbrev Zz59 := [true, true, true, true, true, false, false, false, false, false, false, false]
abbrev Zz60 v0 := [(str v0), (str ([] : Str)), (Vi .i64 (0 : Int)), (str ([] : Str)), (Vs none 0 0)]
abbrev Zz61 := [false, false, false, false, false, false, false, false, false, false, false, false, false, false, false, false]
abbrev Zz62 := [true, true, true, true, true, true, true, true, true, false, false, false, false, false, false, false, false]
abbrev Zz63 := [25, 26, 27, 28, 29, 30, 31, 32, 33, 34, 35, 36]
abbrev Zz64 := [true, true, true, true, true, true, true, true, true, false, false, false]
abbrev Zz65 v0 v1 v2 v3 v4 v5 v6 v7 := [blk v0 [(Vs v1 v2 v3)] 22, rwt aaa 65 3 v4 v5 v6 v7]
abbrev Zz66 := [false, false, false, false, false, false, false, false, false, false, false, false, false, false]
abbrev Zz67 v0 v1 v2 v3 v4 v5 v6 := [blk v0 (Zz8 v1 v2) 99, rwt aaa 65 3 v3 v4 v5 v6]
abbrev Zz68 : Str := [98, 114, 97, 110, 99, 104]
abbrev Zz69 v0 v1 v2 v3 v4 v5 v6 := [blk v0 (Zz33 v1 v0 v2 v3 v4) 111, rwt eB 5 1 v5 v2 v4 v6]
abbrev Zz70 := [true, true, true, true, true, true, false, false, false, false, false, false, false, false]
abbrev Zz71 := [true, true, true, true, true, true, true, true, true, true, false, false, false, false]
abbrev Zz72 := [true, true, true, true, false, false, false, false, false, false, false, false]
abbrev Zz73 v0 v1 v2 v3 v4 v5 := [blk v0 [(str v1)] 9, blk v2 [(str v3)] 9, blk v4 [(Vi .i64 v5)] 3]
abbrev Zz74 := [true, true, true, true, true, true, true, true, true, true, true, true, true, true, true, true, true, true, true, false, false, false, false, false]
abbrev Zz75 := [true, true, true, true, true, true, true, true, true, true, true, true, true, false, true, true, true, true, true, true, false, false, false, false]
abbrev Zz76 v0 v1 v2 := [(Vi .i64 (min v0 v1)), (str (Lib.trimRightS (sub v2 (min v0 v1) v1) ([32, 9] : Str)))]
abbrev Zz77 := [false, false, false, false, false, false, false, false, false, false]
abbrev Zz78 := [true, true, true, true, true, true, true, false, false, false, false, false, false, false, false, false, false, false, false, false]
abbrev Zz79 := [true, true, true, true, true, true, true, true, true, false, false, false, false, false, false, false, false, false, false, false]
abbrev Zz80 v0 v1 v2 v3 v4 v5 := [blk v0 (Zz8 v1 v2) 99, blk v3 (Zz43 v4) 65, blk v5 (Zz6) 65]
abbrev Zz81 := [false, false, false, false, false, false, false, false, false, false, false, false, false, false, false, false, false, false]
abbrev Zz82 v0 v1 v2 v3 v4 v5 v6 := [blk v0 (Zz8 v1 v2) 99, blk v3 (Zz39 v4 v5) 65, blk v6 (Zz6) 65]
abbrev Zz83 v0 v1 v2 v3 := [blk v0 [(Vs v1 v2 v3)] 22]
abbrev Zz84 v0 v1 v2 v3 v4 v5 v6 := [(str v0), (str v1), (str v2), (Vi .i64 v3), (Vs v4 v5 v6), (Vs none 0 0)]
abbrev Zz85 := [9, 10, 11, 12, 13, 14, 15, 16, 17, 18, 19]
abbrev Zz86 := [true, true, true, true, true, true, true, true, false, false, false, false, false, false, false, false, false]
abbrev Zz87 v0 v1 v2 v3 v4 v5 := [(str v0), (str v1), (Vi .i64 v2), (str ([] : Str)), (Vs v3 v4 v5)]
abbrev Zz88 := [true, true, true, true, true, true, true, true, true, true, true, true, true, false, false, false, false]
abbrev Zz89 := [10, 11, 12, 13, 14, 15, 16, 17, 18, 19]
abbrev Zz90 : Str := [48, 49, 50, 51, 52, 53, 54, 55, 56, 57]
abbrev Zz91 := [true, true, true, true, true, true, true, true, true, true, true, true, true, true, false, false, false]
abbrev Zz92 := [false, false, false, false, false, false, false, false]
abbrev Zz93 v0 v1 v2 := [blk v0 (Zz24 v1) 65, blk v2 (Zz6) 65]
abbrev Zz94 v0 v1 v2 := [blk v0 (Zz43 v1) 65, blk v2 (Zz6) 65]
abbrev Zz95 v0 v1 v2 v3 v4 v5 v6 v7 v8 v9 v10 v11 := [blk v0 (Zz7 v1 v2 v3 v4 v5 v6 v7) 24, rwt aaa 65 3 v8 v9 v10 v11]
abbrev Zz96 := [(Vi .i64 (0 : Int)), (str ([] : Str))]
abbrev Zz97 := [(Vp none), (Vs none 0 0)]
abbrev Zz98 v0 v1 := [(Vp (some ⟨v0, 0, none⟩)), (Vp (some ⟨v1, 0, none⟩))]
abbrev Zz99 v0 v1 v2 v3 v4 := [blk v0 (Zz32 v1 v2 v3) 24, blk v4 (Zz4) 24]
abbrev Zz100 v0 v1 v2 v3 v4 := [(0, (Vs v0 v1 v2)), (7, (Vi .i64 v3)), (8, (Vi .i64 v4))]
abbrev Zz101 := [true, true, true, true, true, false, false, false]
theorem wrap_u8_i32 (c : UInt8) : zaa .i32 ((c.toNat : Nat) : Int) = (c.toNat : Int) := by
 revert c; exact aff _ (by decide +kernel)
theorem ent79 : Wk.Enters prog 79 := ⟨f79, _, func79, rfl, krf⟩
theorem ent80 : Wk.Enters prog 80 := ⟨f80, _, func80, rfl, krf⟩
theorem ent144 : Wk.Enters prog 144 := ⟨f144, _, func144, rfl, krf⟩
theorem ent145 : Wk.Enters prog 145 := ⟨f145, _, func145, rfl, krf⟩
theorem aqd {fu : Nat} {a3 : Int} {w : World} {r : Bool} (hr : agf fu a3 = some r) (hG : Gl w) : CR prog 145 [(Vi .i32 a3)] w fun v w' => v = (Vb r) ∧ Hp w [] [] w' := by
 have hH := Hp.refl w
 refine enter (k := 17) func145 rfl rfl nbe ?_
 unfold agf at hr
 refine sr (wp 1 (nq (cs (ce (bi hr fun v5 a0 hr => age hH [0, 2, 3] [(3, (Vb v5))] ?_ ?_)))))
 refine cr (wp 2 (wd a0 (fun h6 a0 => ?_) (fun h6 a0 => ?_)))
 refine wp 4 (wl (ql ?_))
 obtain rfl := oi a0
 exact je hH.kp
 refine wp 4 (wl (ql ?_))
 obtain rfl := oi a0
 exact je hH.kp
 intro w7 G a2
 refine cb hr (fun h9 hr => ?_) (fun h9 hr => ?_)
 refine sr (wp 1 (nq (ct (bt_ (st ?_)))))
 obtain rfl := oi hr
 exact rv a2.kp
 refine bi hr fun a5 a1 hr => age a2 [2, 10] [(10, (Vb a5))] ?_ ?_
 refine cr (wp 2 (wd a1 (fun a6 a1 => ?_) (fun a6 a1 => ?_)))
 refine wp 4 (wl (ql ?_))
 obtain rfl := oi a1
 exact je a2.kp
 refine wp 4 (wl (ql ?_))
 obtain rfl := oi a1
 exact je a2.kp
 intro a8 G a4
 refine cb hr (fun a7 hr => ?_) (fun a7 hr => ?_)
 refine sr (wp 1 (nq (ct (bt_ (st ?_)))))
 obtain rfl := oi hr
 exact rv a4.kp
 refine ck (bn (qn (sr (wp 1 (nq (ct ?_))))))
 obtain rfl := oi hr
 exact rv a4.kp
theorem aot {fu : Nat} {s_0 : Str} {a0 : Int} {w : World} {r : Int} (hr : afg fu s_0 a0 = some r) (hG : Gl w) : CR prog 79 [(str s_0), (Vi .i32 a0)] w fun v w' => v = (Vi .i64 r) ∧ Hp w [] [] w' := by
 have hH := Hp.refl w
 refine enter (k := 187) func79 rfl rfl nbe ?_
 unfold afg at hr
 refine sr (wp 1 (nq (ce (bi hr fun v5 a9 hr => age hH [0, 1, 4, 160] [(160, (Vb v5))] ?_ ?_))))
 refine cr (wp 2 (wd a9 (fun h6 a9 => ?_) (fun h6 a9 => ?_)))
 refine wp 4 (wl (ql ?_))
 obtain rfl := oi a9
 exact je hH.kp
 refine wp 4 (wl (ql ?_))
 obtain rfl := oi a9
 exact je hH.kp
 intro w7 G b0
 refine cb hr (fun h9 hr => ?_) (fun h9 hr => ?_)
 refine sr (wp 2 (w_toU8 .i32 a0 underlying21 underlying5 krf (aat 144 #[] [(str s_0), (bt (u8i a0))] _ ent144 krf krf (amx s_0 (u8i a0) w7) ?_)))
 rintro _ g0 ⟨rfl, b7⟩
 have c6 := b0.call b7; clear b7
 refine wp 1 (nq (ct (bt_ ?_)))
 obtain rfl := oi hr
 exact rv c6.kp
 refine sr (wp 3 (nq (cd hr (fun c7 hr => ?_) (fun c7 hr => ?_))))
 refine bi hr fun b8 c8 hr => cut1 b0 b8 [4] (fun c9 => []) ?_ ?_
 refine sr (wp 1 (w_range b0 s_0 underlying9 krf fun b1 g1 d0 => nq (ce (lpG (σ := Nat × Nat) [4, 175] (fun ⟨a8, a4⟩ => []) (fun ⟨a8, a4⟩ w' => Hp w [] [sit b1 s_0 a4] w' ∧ ael fu s_0 a8 a4 = some b8) (fun ⟨a8, a4⟩ => a8) (fu, 0) (by exact ⟨d0.kp, c8⟩) ?_))))
 rintro ⟨_ | a8, a4⟩ g2 G ⟨b4, a5⟩
 · exact nzz a5
 rw [ael.eq_2] at a5
 refine sr ?_
 by_cases b2 : a4 < s_0.length
 replace a5 := ift b2 a5
 refine w_next b4 0 b1 s_0 a4 rfl krf (fun _ d1 b3 => ?_) (fun b5 => absurd b2 b5)
 replace b3 : Hp w [] [sit b1 s_0 (a4 + (Utf8.decode ⟨List.toArray s_0⟩ a4).2)] d1 := b3
 refine wp 1 (nq (cs (c_true krf (ck (qn (ce (sr ?_)))))))
 refine wp 4 (nq (sr (wp 2 (nq (cd a5 (fun d2 a5 => ?_) (fun d2 a5 => ?_))))))
 refine sr (wp 2 (nq (ct (bt_ (adg (bt_ (adg ?_)))))))
 obtain rfl := oi a5
 refine bt_ ?_
 obtain rfl := oi hr
 exact rv b3.kp
 refine ck (bn (ql ?_))
 exact ⟨(a8, a4 + (Utf8.decode ⟨List.toArray s_0⟩ a4).2), _, rfl, by kernel_rfl, ⟨b3.kp, a5⟩, zad _⟩
 replace a5 := ifn b2 a5
 refine w_next b4 0 b1 s_0 a4 rfl krf (fun b5 => absurd b5 b2) (fun _ => ?_)
 refine wp 1 (nq (cs (arp krf (abq (abp (aby (abr (ql ?_))))))))
 obtain rfl := oi a5
 exact je1 rfl b4.kp
 rintro c9 g3 G d3 rfl
 refine sr (wp 1 (nq (ct (bt_ ?_))))
 obtain rfl := oi hr
 exact rv d3.kp
 refine sr (wp 1 (bi hr fun g4 d4 hr => wc ent145 b0 (aqd d4 (hG.hp0 b0)) fun g5 b9 => wp 2 (nq (cb hr (fun d5 hr => ?_) (fun d5 hr => ?_)))))
 refine sr (wp 1 (nq (ct (bt_ ?_))))
 obtain rfl := oi hr
 exact rv b9.kp
 refine c_scope (sr (wp 1 (w_runestr .i32 .i32 a0 underlying21 underlying9 krf (wp 1 (nq (sr ?_))))))
 refine wp 2 (gi hr fun d6 hr => adk (((Utf8.encode a0).data.toList).length : Int) (1 : Int) krf krf d6 (wp 1 (nq (sr (wp 2 (wl ?_))))))
 refine qn (sr (wp 1 (nq (cs (ce (lpS (fun c0 (_ : Unit) => agt fu s_0 a0 c0) () b9 hr [0, 4, 7, 8, 9] (fun (_ : Unit) => []) (fun _ => rfl) ?_))))))
 rintro c0 _ g6 G b6 a6
 rw [agt.eq_2] at a6
 refine cs (sr (wp 4 (nq (cd a6 (fun d7 a6 => ?_) (fun d7 a6 => ?_)))))
 refine ck (qn (ce (c_scope (bi a6 fun d8 a1 a6 => cut1 b6 d8 [0, 4, 7, 8, 9] (fun a7 => [(9, (Vi .i64 a7))]) ?_ ?_))))
 refine cs (gi a1 fun d9 a1 => gi a1 fun e0 a1 => cdr 6 b6 (ade (aam (np_scope (aak (aam (aak (ade (np_scope (aak adb))))))))) fun g7 c1 => rp 4 [0, 1] (rt 2 (bt (at_ s_0 ((((Utf8.encode a0).data.toList).length : Int) - (1 : Int)))) rfl rfl (aba rfl (by intro w hS_; exact (x_index s_0 .i64 ((((Utf8.encode a0).data.toList).length : Int) - (1 : Int)) underlying9 krf krf d9))) (rp 1 [3, 4] (rt 5 (bt (at_ ((Utf8.encode a0).data.toList) ((((Utf8.encode a0).data.toList).length : Int) - (1 : Int)))) rfl rfl (aba rfl (by intro w hS_; exact (x_index ((Utf8.encode a0).data.toList) .i64 ((((Utf8.encode a0).data.toList).length : Int) - (1 : Int)) underlying9 krf krf e0))) (adn krf (afp (at_ s_0 ((((Utf8.encode a0).data.toList).length : Int) - (1 : Int))) (at_ ((Utf8.encode a0).data.toList) ((((Utf8.encode a0).data.toList).length : Int) - (1 : Int))) krf krf ?_))))))
 refine nq (cn a1 (fun e1 a1 => ?_) (fun e1 a1 => ?_))
 refine cs (gi a1 fun e2 a1 => gi a1 fun e3 a1 => gi a1 fun e4 a1 => cdr 7 c1 (ade (aam (np_scope (aak (aam (aak (ade (np_scope (aak adb))))))))) fun e5 e6 => rp 5 [0, 1] (rt 2 (Vi .i64 (((((Utf8.encode a0).data.toList).length : Int) - (1 : Int)) + (1 : Int))) rfl rfl (aba rfl (by intro w hS_; exact (aln ((((Utf8.encode a0).data.toList).length : Int) - (1 : Int)) (1 : Int) krf krf e2))) (rt 3 (str (zam (zac (((((Utf8.encode a0).data.toList).length : Int) - (1 : Int)) + (1 : Int))) s_0)) rfl rfl (aba rfl (by intro w hS_; exact (aon s_0 .i64 (((((Utf8.encode a0).data.toList).length : Int) - (1 : Int)) + (1 : Int)) underlying9 krf krf e3))) (rp 1 [4, 5] (rt 6 (bt (at_ ((Utf8.encode a0).data.toList) ((((Utf8.encode a0).data.toList).length : Int) - (1 : Int)))) rfl rfl (aba rfl (by intro w hS_; exact (x_index ((Utf8.encode a0).data.toList) .i64 ((((Utf8.encode a0).data.toList).length : Int) - (1 : Int)) underlying9 krf krf e4))) ?_)))))
 refine adn krf (aat 144 #[] [(str (zam (zac (((((Utf8.encode a0).data.toList).length : Int) - (1 : Int)) + (1 : Int))) s_0)), (bt (at_ ((Utf8.encode a0).data.toList) ((((Utf8.encode a0).data.toList).length : Int) - (1 : Int))))] _ ent144 krf krf (amx (zam (zac (((((Utf8.encode a0).data.toList).length : Int) - (1 : Int)) + (1 : Int))) s_0) (at_ ((Utf8.encode a0).data.toList) ((((Utf8.encode a0).data.toList).length : Int) - (1 : Int))) e5) ?_)
 rintro _ g8 ⟨rfl, c2⟩
 have c3 := e6.call c2; clear c2
 refine wp 1 (nq (cs (sr (wp 2 (nq (cd a1 (fun e7 a1 => ?_) (fun e7 a1 => ?_)))))))
 refine sr (wp 1 (nq (ct (st (adg ?_)))))
 obtain rfl := oi a1
 refine n_ret (bt_ (adg (bt_ (st (n_ret (bt_ ?_))))))
 obtain rfl := oi a6
 exact rv c3.kp
 refine ck (qn (cr (wp 2 (gi a1 fun e8 a1 => aae (ixb (· == (at_ ((Utf8.encode a0).data.toList) ((((Utf8.encode a0).data.toList).length : Int) - (1 : Int)))) (zam (zac (((((Utf8.encode a0).data.toList).length : Int) - (1 : Int)) + (1 : Int))) s_0)) (1 : Int) krf krf e8 (gi a1 fun e9 a1 => aae ((((Utf8.encode a0).data.toList).length : Int) - (1 : Int)) ((ixb (· == (at_ ((Utf8.encode a0).data.toList) ((((Utf8.encode a0).data.toList).length : Int) - (1 : Int)))) (zam (zac (((((Utf8.encode a0).data.toList).length : Int) - (1 : Int)) + (1 : Int))) s_0)) + (1 : Int)) krf krf e9 (wp 1 (wl ?_)))))))
 refine ql ?_
 obtain rfl := oi a1
 exact je1 rfl c3.kp
 refine ck (ql ?_)
 obtain rfl := oi a1
 exact je1 rfl c1.kp
 rintro a7 g9 G f0 rfl
 refine cs (sr (wp 1 (nq (ce (lpS (fun c4 a3 => aic fu s_0 a0 a7 c4 a3) (1 : Int) f0 a6 [0, 4, 7, 8, 9, 12] (fun a3 => [(12, (Vi .i64 a3))]) (fun _ => rfl) ?_)))))
 rintro c4 a3 h0 G c5 a2
 rw [aic.eq_2] at a2
 refine cs (sr (wp 4 (nq (cd a2 (fun f1 a2 => ?_) (fun f1 a2 => ?_)))))
 refine ck (qn (cs (ce (cs (gi a2 fun f2 a2 => gi a2 fun f3 a2 => gi a2 fun f4 a2 => gi a2 fun f5 a2 => cdr 10 c5 (ade (aak (ade (aam (aak (ade (np_scope (aak (aam (aak (ade (np_scope (aak adb))))))))))))) fun h1 f6 => ?_)))))
 refine rp 7 [0, 1, 2] (rt 3 (Vi .i64 (a7 - a3)) rfl rfl (aba rfl (by intro w hS_; exact (amg a7 a3 krf krf f2))) (rt 4 (bt (at_ s_0 (a7 - a3))) rfl rfl (aba rfl (by intro w hS_; exact (x_index s_0 .i64 (a7 - a3) underlying9 krf krf f3))) (rp 2 [5, 6, 7] (rt 8 (Vi .i64 (((((Utf8.encode a0).data.toList).length : Int) - (1 : Int)) - a3)) rfl rfl (aba rfl (by intro w hS_; exact (amg ((((Utf8.encode a0).data.toList).length : Int) - (1 : Int)) a3 krf krf f4))) (rt 9 (bt (at_ ((Utf8.encode a0).data.toList) (((((Utf8.encode a0).data.toList).length : Int) - (1 : Int)) - a3))) rfl rfl (aba rfl (by intro w hS_; exact (x_index ((Utf8.encode a0).data.toList) .i64 (((((Utf8.encode a0).data.toList).length : Int) - (1 : Int)) - a3) underlying9 krf krf f5))) (adn krf (afp (at_ s_0 (a7 - a3)) (at_ ((Utf8.encode a0).data.toList) (((((Utf8.encode a0).data.toList).length : Int) - (1 : Int)) - a3)) krf krf (nq (cn a2 (fun f7 a2 => ?_) (fun f7 a2 => ?_))))))))))
 exact nzz a2
 exact ck (bn (qn (cr (wp 1 (gi a2 fun f8 a2 => aae a3 (1 : Int) krf krf f8 (wp 1 (wl (ql (le' (a3 + (1 : Int)) f6.kp a2)))))))))
 refine abq (abp (aby (abr (qn (cs (sr (wp 2 (gi a2 fun f9 a2 => ?_))))))))
 refine adk a7 ((((Utf8.encode a0).data.toList).length : Int) - (1 : Int)) krf krf f9 (wp 1 (nq (ct (st (n_ret (bt_ (adg (bt_ ?_))))))))
 refine st (n_ret (bt_ ?_))
 obtain rfl := oi a2
 exact rv c5.kp
 refine abq (abp (aby (abr (qn (cs (sr (wp 1 (wl ?_))))))))
 refine qn (ct (st (n_ret (bt_ ?_))))
 obtain rfl := oi a6
 exact rv b6.kp
theorem apa {fu : Nat} {a0 : Int} {w : World} {r : Bool} (hr : ags fu a0 = some r) (hG : Gl w) : CR prog 80 [(Vi .i64 a0)] w fun v w' => v = (Vb r) ∧ Hp w [] [] w' := by
 have hH := Hp.refl w
 refine enter (k := 5) func80 rfl rfl nbe ?_
 unfold ags at hr
 refine sr (wp 1 (nq (sr (wp 3 (nq ?_)))))
 refine ct ?_
 obtain rfl := oi hr
 exact rv hH.kp
theorem K_L_strings_IndexAny {fu : Nat} {s_0 : Str} {a4 : Str} {w : World} {r : Int} (hr : alf fu s_0 a4 = some r) (hG : Gl w) : CR prog 32 [(str s_0), (str a4)] w fun v w' => v = (Vi .i64 r) ∧ Hp w [] [] w' := by
 have hH := Hp.refl w
 refine enter (k := 55) func32 rfl rfl nbe ?_
 unfold alf at hr
 refine sr (wp 1 (nq (cs (sr (wp 2 (wl ?_))))))
 refine qn (cd hr (fun h1 hr => ?_) (fun h1 hr => ?_))
 refine sr (wp 1 (nq (ct (st ?_))))
 obtain rfl := oi hr
 exact rv hH.kp
 refine ck (qn (cs (sr (wp 3 (nq (cd hr (fun h2 hr => ?_) (fun h2 hr => ?_)))))))
 refine sr (wp 1 (gi hr fun g3 hr => abi a4 .i64 (0 : Int) underlying9 krf krf g3 (w_convx .i32 .u8 ((at_ a4 (0 : Int)).toNat : Int) underlying5 underlying21 krf (wrap_u8_i32 _) (wp 1 (nq (bi hr fun v8 a5 hr => age hH [0, 1, 4, 5] [(5, (Vi .i32 v8))] ?_ ?_))))))
 refine sr (wp 2 (nq (cd a5 (fun h9 a5 => ?_) (fun h9 a5 => ?_))))
 refine cr (wp 1 (wl (ql ?_)))
 obtain rfl := oi a5
 exact je hH.kp
 refine ck (ql ?_)
 obtain rfl := oi a5
 exact je hH.kp
 intro c7 G b1
 refine sr (wp 2 (bi hr fun c8 b5 hr => wc ent79 b1 (aot b5 (hG.hp0 b1)) fun c9 b6 => wp 1 (nq (ct (st ?_)))))
 obtain rfl := oi hr
 exact rv b6.kp
 refine ck (qn (bi hr fun d0 a2 hr => age hH [0, 1, 4] [] ?_ ?_))
 refine sr (wp 2 (bi a2 fun d1 b7 a2 => wc ent80 hH (apa b7 (hG.hp0 hH)) fun d2 b8 => nq (cb a2 (fun b9 a2 => ?_) (fun b9 a2 => ?_))))
 exact nzz a2
 refine ck (ql ?_)
 obtain rfl := oi a2
 exact je b8.kp
 intro d3 G b2
 refine bi hr fun b3 c0 hr => cut1 b2 b3 [4] (fun c1 => []) ?_ ?_
 refine sr (wp 1 (w_range b2 s_0 underlying9 krf fun a6 d4 c2 => nq (ce (lpG (σ := Nat × Nat) [1, 4, 45] (fun ⟨a3, a1⟩ => []) (fun ⟨a3, a1⟩ w' => Hp w [] [sit a6 s_0 a1] w' ∧ aeb fu s_0 a4 a3 a1 = some b3) (fun ⟨a3, a1⟩ => a3) (fu, 0) (by exact ⟨c2.kp, c0⟩) ?_))))
 rintro ⟨_ | a3, a1⟩ d5 G ⟨a9, a0⟩
 · exact nzz a0
 rw [aeb.eq_2] at a0
 refine sr ?_
 by_cases a7 : a1 < s_0.length
 replace a0 := ift a7 a0
 refine w_next a9 0 a6 s_0 a1 rfl krf (fun _ c3 a8 => ?_) (fun b0 => absurd a7 b0)
 replace a8 : Hp w [] [sit a6 s_0 (a1 + (Utf8.decode ⟨List.toArray s_0⟩ a1).2)] c3 := a8
 refine wp 1 (nq (cs (c_true krf (ck (qn (ce (sr ?_)))))))
 refine wp 4 (nq (sr (wp 2 (bi a0 fun d6 c4 a0 => wc ent79 a8 (aot c4 (hG.hp0 a8)) fun d7 b4 => wp 1 (wl ?_)))))
 refine qn (cd a0 (fun c5 a0 => ?_) (fun c5 a0 => ?_))
 refine sr (wp 2 (nq (ct (bt_ (adg (bt_ (adg ?_)))))))
 obtain rfl := oi a0
 obtain rfl := oi hr
 exact rv b4.kp
 refine ck (bn (ql ?_))
 exact ⟨(a3, a1 + (Utf8.decode ⟨List.toArray s_0⟩ a1).2), _, rfl, by kernel_rfl, ⟨b4.kp, a0⟩, zad _⟩
 replace a0 := ifn a7 a0
 refine w_next a9 0 a6 s_0 a1 rfl krf (fun b0 => absurd b0 a7) (fun _ => ?_)
 refine wp 1 (nq (cs (arp krf (abq (abp (aby (abr (ql ?_))))))))
 obtain rfl := oi a0
 exact je1 rfl a9.kp
 rintro c1 d8 G c6 rfl
 refine sr (wp 1 (nq (ct ?_)))
 obtain rfl := oi hr
 exact rv c6.kp
end Go.Proofs
namespace Go.Wk
open Go.Px
theorem asc_at {t : Str} (h : t.all (fun b => decide (b.toNat < 128)) = true) (k : Nat) (hk : k < t.length) : (at_ t (k : Int)).toNat < 128 := by
  have hm : at_ t (k : Int) ∈ t := by simp only [at_, Int.toNat_natCast, List.getD_eq_getElem?_getD, List.getElem?_eq_getElem hk, Option.getD_some]; exact List.getElem_mem hk
  exact of_decide_eq_true (List.all_eq_true.1 h _ hm)
theorem ia_ok (a : Int) (h0 : -1000000 ≤ a) (h : a ≤ 1000000) : abx a := ⟨by omega, by omega⟩
theorem ia_err (t : Str) (ha : t.all (fun b => decide (b.toNat < 128)) = true) (n : Nat) : ∀ (k fk : Nat), k + n = t.length → n < fk → ael 2000 t fk k = some (.inl ()) := by
  induction n with
  | zero =>
    intro k fk hk hf
    obtain ⟨fk, rfl⟩ := fkx fk
    rw [ael, if_neg (by omega)]
  | succ n ih =>
    intro k fk hk hf
    obtain ⟨fk, rfl⟩ := fkx fk
    have h1 := asc_at ha k (by omega)
    have hd := dec_ascii t k (by omega) h1
    have hd' : Utf8.decode ⟨List.toArray t⟩ k = ((at_ t (k : Int)).toNat, 1) := hd
    rw [ael, if_pos (by omega), hd', if_neg (by simp only; omega)]
    exact ih (k + 1) fk (by omega) (by omega)
theorem ixb_no (p : UInt8 → Bool) : ∀ l : Str, (∀ c ∈ l, p c = false) → ixb p l = -1
  | [], _ => rfl
  | c :: l, h => by
    unfold ixb
    rw [h c (by simp), if_neg (by decide), ixb_no p l (fun x hx => h x (List.mem_cons_of_mem _ hx)), if_pos rfl]
theorem ia_high (t : Str) (ht : t.length ≤ 1000) (ha : t.all (fun b => decide (b.toNat < 128)) = true) (r : Int) (hr : 128 ≤ r) : afg 2000 t r = some (-1) := by
  have hn : decide (r < 128) = false := decide_eq_false (by omega)
  unfold afg
  rw [if_pos (by omega), hn, Option.bind_some, cond_false]
  by_cases he : r = 65533
  · rw [if_pos he, ia_err t ha t.length 0 2000 (by omega) (by omega)]; rfl
  rw [if_neg he]
  have hv : ∃ b, agf 2000 r = some b := by
    unfold agf
    rw [if_pos (by omega), Option.bind_some]
    cases decide (r < 55296) with
    | true => exact ⟨_, rfl⟩
    | false =>
      rw [cond_false]
      by_cases h : 57343 < r
      · rw [if_pos h, Option.bind_some]; cases decide (r ≤ 1114111) <;> exact ⟨_, rfl⟩
      · rw [if_neg h]; exact ⟨_, rfl⟩
  obtain ⟨b, hb⟩ := hv
  rw [hb, Option.bind_some]
  cases b with
  | false => rfl
  | true =>
    obtain ⟨e1, e2, e3⟩ := encL_high r hr
    have hE : (Utf8.encode r).data.toList = encL r := rfl
    rw [Bool.not_true, cond_false, hE]
    have hok : abx (((encL r).length : Int) - 1) := ia_ok _ (by omega) (by omega)
    rw [aac hok]
    show agt 2000 t r (1999 + 1) = _
    rw [agt, hE]
    generalize hlast : at_ (encL r) (((encL r).length : Int) - 1) = last at e3
    generalize hm : ((encL r).length : Int) - 1 = m at hlast e3 ⊢
    by_cases hlt : m < (t.length : Int)
    · obtain ⟨k, rfl⟩ : ∃ k : Nat, m = (k : Int) := ⟨m.toNat, by omega⟩
      have h1 := asc_at ha k (by omega)
      have hne : ¬ at_ t (k : Int) = last := fun e => by rw [e] at h1; omega
      have hall : ∀ l : Str, (∀ c ∈ l, c ∈ t) → ixb (· == last) l = -1 := fun l hl => ixb_no _ l fun c hc => by
        have hc' := of_decide_eq_true (List.all_eq_true.1 ha c (hl c hc))
        have : ¬ c = last := fun e => by rw [e] at hc'; omega
        simpa using this
      rw [if_pos hlt, aac (by omega), aac (by omega), if_neg hne, aac (ia_ok _ (by omega) (by omega)), aac (by omega), aac (by omega), hall _ (fun c hc => List.mem_of_mem_drop hc), if_pos (by decide), Option.bind_some, Sum.elim_inr]
    · rw [if_neg hlt]
theorem u8i_back : ∀ c : UInt8, u8i (c.toNat : Int) = c := aff _ (by decide +kernel)
theorem ia_low (t : Str) (c : UInt8) (hc : c.toNat < 128) : afg 2000 t (c.toNat : Int) = some (ixb (· == c) t) := by
  have hn : decide ((c.toNat : Int) < 128) = true := decide_eq_true (by omega)
  unfold afg
  rw [if_pos (by omega), hn, Option.bind_some, cond_true, u8i_back]
theorem ixb_mem (c : UInt8) : ∀ t : Str, (0 ≤ ixb (· == c) t) ↔ t.contains c = true
  | [] => by simp [ixb]
  | b :: t => by
    have ih := ixb_mem c t
    have hg := ixb_ge (· == c) t
    unfold ixb
    by_cases h : b = c
    · rw [if_pos (by simpa using h)]
      simp [h]
    · have h' : ¬ c = b := fun e => h e.symm
      rw [if_neg (by simpa using h), List.contains_cons]
      have hb : (c == b) = false := by simpa using h'
      rw [hb, Bool.false_or, ← ih]
      split
      · rename_i h1; rw [h1]
      · omega
theorem ixb_skip (p : UInt8 → Bool) : ∀ a l : Str, (∀ c ∈ a, p c = false) → ixb p (a ++ l) = if ixb p l = -1 then -1 else ixb p l + (a.length : Int)
  | [], l, _ => by
    rw [List.nil_append, List.length_nil]
    split
    · assumption
    · omega
  | c :: a, l, h => by
    have ih := ixb_skip p a l (fun x hx => h x (List.mem_cons_of_mem _ hx))
    have hg := ixb_ge p l
    rw [List.cons_append, ixb, h c (by simp), if_neg (by decide), ih]
    by_cases h1 : ixb p l = -1
    · rw [if_pos h1, if_pos h1, if_pos rfl]
    · rw [if_neg h1, if_neg h1, if_neg (by omega), List.length_cons]; omega
theorem ia_lp (s t : Str) (ht : t.length ≤ 1000) (ha : t.all (fun b => decide (b.toNat < 128)) = true) (n : Nat) : ∀ (k fk : Nat), s.length - k ≤ n → n < fk → k ≤ s.length →
    aeb 2000 s t fk k = some (if ixb (t.contains ·) (s.drop k) = -1 then .inl () else .inr ((k : Int) + ixb (t.contains ·) (s.drop k))) := by
  induction n with
  | zero =>
    intro k fk hk hf hl
    obtain ⟨fk, rfl⟩ := fkx fk
    rw [aeb, if_neg (by omega), List.drop_eq_nil_of_le (by omega)]; rfl
  | succ n ih =>
    intro k fk hk hf hl
    obtain ⟨fk, rfl⟩ := fkx fk
    by_cases hlt : k < s.length
    · rw [aeb, if_pos hlt]
      have hg := ixb_ge (t.contains ·) (s.drop (k + 1))
      by_cases h128 : (at_ s (k : Int)).toNat < 128
      · have hd' : Utf8.decode ⟨List.toArray s⟩ k = ((at_ s (k : Int)).toNat, 1) := dec_ascii s k hlt h128
        rw [hd']
        simp only
        rw [ia_low t _ h128, Option.bind_some, aox s k hlt, ixb]
        have hmem := ixb_mem (at_ s (k : Int)) t
        by_cases hc : t.contains (at_ s (k : Int)) = true
        · rw [if_pos (hmem.2 hc), if_pos hc, if_neg (by decide)]; simp
        · rw [if_neg (fun h => hc (hmem.1 h)), if_neg hc, ih (k + 1) fk (by omega) (by omega) (by omega)]
          by_cases h1 : ixb (t.contains ·) (s.drop (k + 1)) = -1
          · rw [if_pos h1, if_pos h1, if_pos rfl]
          · rw [if_neg h1, if_neg h1, if_neg (by omega)]
            congr 2
            omega
      · obtain ⟨d1, d2, d3, d4⟩ := dec_high s k hlt h128
        have e : (⟨s.toArray⟩ : ByteArray) = ⟨List.toArray s⟩ := rfl
        rw [ia_high t ht ha _ (by omega), Option.bind_some, if_neg (by decide)]
        generalize (Utf8.decode ⟨s.toArray⟩ k).2 = wd at d2 d3 d4 ⊢
        rw [ih (k + wd) fk (by omega) (by omega) (by omega)]
        have hsplit : s.drop k = (s.drop k).take wd ++ s.drop (k + wd) := by
          have hdd : s.drop (k + wd) = (s.drop k).drop wd := by rw [List.drop_drop]
          rw [hdd, List.take_append_drop]
        have hno : ∀ c ∈ (s.drop k).take wd, t.contains c = false := by
          intro c hc
          obtain ⟨j, hj, rfl⟩ := List.getElem_of_mem hc
          rw [List.length_take, List.length_drop] at hj
          have hb := d4 (k + j) (by omega) (by omega)
          rw [List.getElem_take, List.getElem_drop]
          have e2 : at_ s ((k + j : Nat) : Int) = s[k + j]'(by omega) := by
            unfold at_
            rw [Int.toNat_natCast]
            simp [show k + j < s.length by omega]
          rw [e2] at hb
          cases hcc : t.contains (s[k + j]'(by omega)) with
          | false => rfl
          | true =>
            have := of_decide_eq_true (List.all_eq_true.1 ha _ (List.contains_iff_mem.1 hcc))
            omega
        have hsk : ixb (t.contains ·) (s.drop k) = if ixb (t.contains ·) (s.drop (k + wd)) = -1 then -1 else ixb (t.contains ·) (s.drop (k + wd)) + (((s.drop k).take wd).length : Int) := by
          conv => lhs; rw [hsplit]
          exact ixb_skip _ _ _ hno
        rw [hsk]
        have hlen : ((s.drop k).take wd).length = wd := by rw [List.length_take, List.length_drop]; omega
        have hg2 := ixb_ge (t.contains ·) (s.drop (k + wd))
        rw [hlen]
        by_cases h1 : ixb (t.contains ·) (s.drop (k + wd)) = -1
        · rw [if_pos h1, if_pos h1, if_pos rfl]
        · rw [if_neg h1, if_neg h1, if_neg (by omega)]
          congr 2
          omega
    · rw [aeb, if_neg hlt, List.drop_eq_nil_of_le (by omega)]; rfl
theorem ia_short (s t : Str) (h8 : s.length ≤ 8) (h2 : 2 ≤ t.length) (ht : t.length ≤ 1000) (ha : t.all (fun b => decide (b.toNat < 128)) = true) : alf 2000 s t = some (Lib.indexAny s t) := by
  have hne : ¬ t = [] := fun e => by rw [e] at h2; simp at h2
  have hg := ixb_ge (t.contains ·) s
  unfold alf ags
  rw [if_neg hne, if_neg (by omega), Option.bind_some, decide_eq_false (by omega), cond_false, Option.bind_some, ia_lp s t ht ha s.length 0 2000 (by omega) (by omega) (by omega), List.drop_zero, aqg, Option.bind_some]
  by_cases h1 : ixb (t.contains ·) s = -1
  · rw [if_pos h1, h1]; rfl
  · rw [if_neg h1, Sum.elim_inr]
    congr 1
    omega
end Go.Wk
namespace Go.Proofs
open Go.Wk Go.Px
theorem sh_IndexAnyW (s t : List UInt8) (w : World) (h : s.length ≤ 1000000000 ∧ t.length ≤ 1000 ∧ t.all (fun b => decide (b.toNat < 128)) = true) (hG : Gl w) : CR Tryz.prog 32 [str s, str t] w fun v w' => v = .int .i64 (Lib.indexAny s t) ∧ Hp w [] [] w' := by
  obtain ⟨h1, h2, h3⟩ := h
  by_cases h8 : 8 < s.length
  · exact sh_IndexAny s t w ⟨h1, h2, h3, .inl h8⟩
  by_cases ht : t.length ≤ 1
  · exact sh_IndexAny s t w ⟨h1, h2, h3, .inr (.inl ht)⟩
  exact K_L_strings_IndexAny (ia_short s t (by omega) (by omega) h2 h3) hG
open Go.Value renaming slice → Vs, int → Vi, bool → Vb, pointer → Vp
open Go.Value renaming func → zap, tuple → zak
open Int renaming toNat → zac
open List renaming flatMap → zai, set → zal
open Nat renaming lt_succ_self → zad
open Tryz
theorem ent28 : Wk.Enters prog 28 := ⟨f28, _, func28, rfl, krf⟩
theorem ent30 : Wk.Enters prog 30 := ⟨f30, _, func30, rfl, krf⟩
theorem ent47 : Wk.Enters prog 47 := ⟨f47, _, func47, rfl, krf⟩
theorem ent71 : Wk.Enters prog 71 := ⟨f71, _, func71, rfl, krf⟩
theorem ent72 : Wk.Enters prog 72 := ⟨f72, _, func72, rfl, krf⟩
theorem ent76 : Wk.Enters prog 76 := ⟨f76, _, func76, rfl, krf⟩
theorem ent77 : Wk.Enters prog 77 := ⟨f77, _, func77, rfl, krf⟩
theorem K_L_lexis_char_token {fu : Nat} {a2 : UInt8} {w : World} {r : Bool} (hr : ajb fu a2 = some r) (hG : Gl w) : CR prog 77 [(bt a2)] w fun v w' => v = (Vb r) ∧ Hp w [] [] w' := by
 have hH := Hp.refl w
 refine enter (k := 34) func77 rfl rfl nbe ?_
 unfold ajb at hr
 refine sr (wp 1 (nq (bi hr fun a7 a0 hr => cut1 hH a7 [0, 2] (fun a8 => []) ?_ ?_)))
 refine ce (cs (bi a0 fun a9 a3 a0 => age hH [0, 2, 3] [(3, (Vb a9))] ?_ ?_))
 refine cr (wp 1 (ajo a2 (97 : UInt8) krf krf (wd a3 (fun b0 a3 => ?_) (fun b0 a3 => ?_))))
 refine wp 1 (gy 6 (ajn a2 (122 : UInt8) krf krf (wp 2 (wl (ql ?_)))))
 obtain rfl := oi a3
 exact je hH.kp
 refine wp 4 (wl (ql ?_))
 obtain rfl := oi a3
 exact je hH.kp
 intro d8 G a4
 refine cb a0 (fun b1 a0 => ?_) (fun b1 a0 => ?_)
 refine ck (qn (cb a0 (fun b2 a0 => ?_) (fun b2 a0 => ?_)))
 refine sr (wp 1 (nq (ct (bt_ (adg ?_)))))
 obtain rfl := oi a0
 obtain rfl := oi hr
 exact rv a4.kp
 refine ck (bn (ql ?_))
 obtain rfl := oi a0
 exact je1 rfl a4.kp
 refine bi a0 fun b3 a5 a0 => age a4 [0, 2, 3] [(3, (Vb b3))] ?_ ?_
 refine cr (wp 1 (ajo a2 (65 : UInt8) krf krf (wd a5 (fun b4 a5 => ?_) (fun b4 a5 => ?_))))
 refine wp 1 (gy 12 (ajn a2 (90 : UInt8) krf krf (wp 2 (wl (ql ?_)))))
 obtain rfl := oi a5
 exact je a4.kp
 refine wp 4 (wl (ql ?_))
 obtain rfl := oi a5
 exact je a4.kp
 intro d9 G a6
 refine cb a0 (fun b5 a0 => ?_) (fun b5 a0 => ?_)
 refine ck (qn (cb a0 (fun b6 a0 => ?_) (fun b6 a0 => ?_)))
 refine sr (wp 1 (nq (ct (bt_ (adg ?_)))))
 obtain rfl := oi a0
 obtain rfl := oi hr
 exact rv a6.kp
 refine ck (bn (ql ?_))
 obtain rfl := oi a0
 exact je1 rfl a6.kp
 refine cr (wp 1 (ajo a2 (48 : UInt8) krf krf (wd a0 (fun b7 a0 => ?_) (fun b7 a0 => ?_))))
 refine wp 1 (gy 18 (ajn a2 (57 : UInt8) krf krf (wp 2 (nq (cd a0 (fun b8 a0 => ?_) (fun b8 a0 => ?_))))))
 refine sr (wp 1 (nq (ct (bt_ (adg ?_)))))
 obtain rfl := oi a0
 obtain rfl := oi hr
 exact rv a6.kp
 refine ck (bn (ql ?_))
 obtain rfl := oi a0
 exact je1 rfl a6.kp
 refine wp 4 (nq (arp krf (ck (bn (ql ?_)))))
 obtain rfl := oi a0
 exact je1 rfl a6.kp
 rintro a8 e0 G a1 rfl
 refine cs (sr (wp 1 (nq (ce (cs (sr ?_))))))
 refine acx a2 (45 : UInt8) krf krf (wp 1 (nq (cd hr (fun b9 hr => ?_) (fun b9 hr => ?_))))
 refine ck (qn (cd hr (fun c0 hr => ?_) (fun c0 hr => ?_)))
 refine sr (wp 1 (nq (ct (bt_ (st ?_)))))
 obtain rfl := oi hr
 exact rv a1.kp
 refine ck (bn (qn (sr (wp 1 (nq (ct ?_))))))
 obtain rfl := oi hr
 exact rv a1.kp
 refine sr (acx a2 (46 : UInt8) krf krf (wp 1 (nq (cd hr (fun c1 hr => ?_) (fun c1 hr => ?_)))))
 refine ck (qn (cd hr (fun c2 hr => ?_) (fun c2 hr => ?_)))
 refine sr (wp 1 (nq (ct (bt_ (st ?_)))))
 obtain rfl := oi hr
 exact rv a1.kp
 refine ck (bn (qn (sr (wp 1 (nq (ct ?_))))))
 obtain rfl := oi hr
 exact rv a1.kp
 refine sr (acx a2 (33 : UInt8) krf krf (wp 1 (nq (cd hr (fun c3 hr => ?_) (fun c3 hr => ?_)))))
 refine ck (qn (cd hr (fun c4 hr => ?_) (fun c4 hr => ?_)))
 refine sr (wp 1 (nq (ct (bt_ (st ?_)))))
 obtain rfl := oi hr
 exact rv a1.kp
 refine ck (bn (qn (sr (wp 1 (nq (ct ?_))))))
 obtain rfl := oi hr
 exact rv a1.kp
 refine sr (acx a2 (37 : UInt8) krf krf (wp 1 (nq (cd hr (fun c5 hr => ?_) (fun c5 hr => ?_)))))
 refine ck (qn (cd hr (fun c6 hr => ?_) (fun c6 hr => ?_)))
 refine sr (wp 1 (nq (ct (bt_ (st ?_)))))
 obtain rfl := oi hr
 exact rv a1.kp
 refine ck (bn (qn (sr (wp 1 (nq (ct ?_))))))
 obtain rfl := oi hr
 exact rv a1.kp
 refine sr (acx a2 (42 : UInt8) krf krf (wp 1 (nq (cd hr (fun c7 hr => ?_) (fun c7 hr => ?_)))))
 refine ck (qn (cd hr (fun c8 hr => ?_) (fun c8 hr => ?_)))
 refine sr (wp 1 (nq (ct (bt_ (st ?_)))))
 obtain rfl := oi hr
 exact rv a1.kp
 refine ck (bn (qn (sr (wp 1 (nq (ct ?_))))))
 obtain rfl := oi hr
 exact rv a1.kp
 refine sr (acx a2 (95 : UInt8) krf krf (wp 1 (nq (cd hr (fun c9 hr => ?_) (fun c9 hr => ?_)))))
 refine ck (qn (cd hr (fun d0 hr => ?_) (fun d0 hr => ?_)))
 refine sr (wp 1 (nq (ct (bt_ (st ?_)))))
 obtain rfl := oi hr
 exact rv a1.kp
 refine ck (bn (qn (sr (wp 1 (nq (ct ?_))))))
 obtain rfl := oi hr
 exact rv a1.kp
 refine sr (acx a2 (43 : UInt8) krf krf (wp 1 (nq (cd hr (fun d1 hr => ?_) (fun d1 hr => ?_)))))
 refine ck (qn (cd hr (fun d2 hr => ?_) (fun d2 hr => ?_)))
 refine sr (wp 1 (nq (ct (bt_ (st ?_)))))
 obtain rfl := oi hr
 exact rv a1.kp
 refine ck (bn (qn (sr (wp 1 (nq (ct ?_))))))
 obtain rfl := oi hr
 exact rv a1.kp
 refine sr (acx a2 (39 : UInt8) krf krf (wp 1 (nq (cd hr (fun d3 hr => ?_) (fun d3 hr => ?_)))))
 refine ck (qn (cd hr (fun d4 hr => ?_) (fun d4 hr => ?_)))
 refine sr (wp 1 (nq (ct (bt_ (st ?_)))))
 obtain rfl := oi hr
 exact rv a1.kp
 refine ck (bn (qn (sr (wp 1 (nq (ct ?_))))))
 obtain rfl := oi hr
 exact rv a1.kp
 refine sr (acx a2 (126 : UInt8) krf krf (wp 1 (nq (cd hr (fun d5 hr => ?_) (fun d5 hr => ?_)))))
 refine ck (qn (cd hr (fun d6 hr => ?_) (fun d6 hr => ?_)))
 refine sr (wp 1 (nq (ct (bt_ (st ?_)))))
 obtain rfl := oi hr
 exact rv a1.kp
 refine ck (bn (qn (sr (wp 1 (nq (ct ?_))))))
 obtain rfl := oi hr
 exact rv a1.kp
 refine cr (acx a2 (96 : UInt8) krf krf (wp 1 (nq (cd hr (fun d7 hr => ?_) (fun d7 hr => ?_)))))
 refine sr (wp 1 (nq (ct (bt_ (st ?_)))))
 obtain rfl := oi hr
 exact rv a1.kp
 refine ck (bn (qn (sr (wp 1 (nq (ct ?_))))))
 obtain rfl := oi hr
 exact rv a1.kp
theorem aog {fu : Nat} {s_0 : Str} {a3 : Int} {w : World} {r : Int} (hr : aep fu s_0 a3 = some r) (hG : Gl w) : CR prog 76 [(str s_0), (Vi .i64 a3), (zap (.func 77) #[] #[])] w fun v w' => v = (Vi .i64 r) ∧ Hp w [] [] w' := by
 have hH := Hp.refl w
 refine enter (k := 26) func76 rfl rfl nbe ?_
 unfold aep at hr
 refine sr (wp 1 (nq (sr (wp 1 (w_max .i64 a3 (0 : Int) krf krf (wp 2 ?_))))))
 refine w_min .i64 (max a3 (0 : Int)) (s_0.length : Int) krf krf (wp 1 (nq (bi hr fun a7 a8 hr => age hH [1, 6] [(1, (Vi .i64 a7))] ?_ ?_)))
 refine ce (lpS (fun a5 a2 => acs fu s_0 a5 a2) (min (max a3 (0 : Int)) (s_0.length : Int)) hH a8 [0, 1, 2, 6] (fun a2 => [(1, (Vi .i64 a2))]) (fun _ => rfl) ?_)
 rintro a5 a2 b7 G a4 a0
 rw [acs.eq_2] at a0
 refine cs (bi a0 fun a9 a1 a0 => age a4 [0, 1, 2, 6, 22] [(22, (Vb a9))] ?_ ?_)
 refine cr (wp 4 (wd a1 (fun b0 a1 => ?_) (fun b0 a1 => ?_)))
 refine wp 3 (gy 16 (gi a1 fun b1 a1 => abi s_0 .i64 a2 underlying9 krf krf b1 (gy 16 (bi a1 fun b8 b2 a1 => wc ent77 a4 (K_L_lexis_char_token b2 (hG.hp0 a4)) fun b9 b3 => wp 1 (wl (ql ?_))))))
 obtain rfl := oi a1
 exact je b3.kp
 refine wp 6 (wl (ql ?_))
 obtain rfl := oi a1
 exact je a4.kp
 intro c0 G a6
 refine cb a0 (fun b4 a0 => ?_) (fun b4 a0 => ?_)
 refine ck (qn (ce (cr (wp 1 (gi a0 fun b5 a0 => aae a2 (1 : Int) krf krf b5 (wp 1 (wl (bn ?_))))))))
 exact ql (le' (a2 + (1 : Int)) a6.kp a0)
 refine abq (abp (aby (abr (ql ?_))))
 obtain rfl := oi a0
 exact je a6.kp
 intro c1 G b6
 refine sr (wp 2 (nq (ct ?_)))
 obtain rfl := oi hr
 exact rv b6.kp
theorem anp {fu : Nat} {s_0 : Str} {a0 : Int} {w : World} {r : Int} (hr : ahg fu s_0 a0 = some r) (hG : Gl w) : CR prog 30 [(str s_0), (Vi .i64 a0)] w fun v w' => v = (Vi .i64 r) ∧ Hp w [] [] w' := by
 have hH := Hp.refl w
 refine enter (k := 8) func30 rfl rfl nbe ?_
 unfold ahg at hr
 refine sr (wp 1 (nq (sr (wp 2 (bi hr fun y1 a1 hr => wc ent76 hH (aog a1 (hG.hp0 hH)) fun w3 a2 => ?_)))))
 refine wp 1 (nq (ct ?_))
 obtain rfl := oi hr
 exact rv a2.kp
theorem aio {fu : Nat} {s_0 : Str} {w : World} {r : Bool} (hr : aie fu s_0 = some r) (hG : Gl w) : CR prog 47 [(str s_0)] w fun v w' => v = (Vb r) ∧ Hp w [] [] w' := by
 have hH := Hp.refl w
 refine enter (k := 12) func47 rfl rfl nbe ?_
 unfold aie at hr
 refine sr (wp 1 (nq (bi hr fun a1 a0 hr => age hH [2] [(2, (Vb a1))] ?_ ?_)))
 refine cr (wp 2 (wn a0 (fun a2 a0 => ?_) (fun a2 a0 => ?_)))
 refine wp 1 (gy 5 (bi a0 fun a6 a3 a0 => wc ent30 hH (anp a3 (hG.hp0 hH)) fun a7 a4 => wp 5 (wl (ql ?_))))
 obtain rfl := oi a0
 exact je a4.kp
 refine wp 7 (wl (ql ?_))
 obtain rfl := oi a0
 exact je hH.kp
 intro a8 G a5
 refine ct ?_
 obtain rfl := oi hr
 exact rv a5.kp
theorem apf {fu : Nat} {a0 : UInt8} {w : World} {r : UInt8} (hr : alh fu a0 = some r) (hG : Gl w) : CR prog 72 [(bt a0)] w fun v w' => v = (bt r) ∧ Hp w [] [] w' := by
 have hH := Hp.refl w
 refine enter (k := 12) func72 rfl rfl nbe ?_
 unfold alh at hr
 refine sr (wp 1 (nq (cs (bi hr fun v5 a1 hr => age hH [0, 2, 8] [(8, (Vb v5))] ?_ ?_))))
 refine cr (wp 1 (ajo a0 (65 : UInt8) krf krf (wd a1 (fun h6 a1 => ?_) (fun h6 a1 => ?_))))
 refine wp 1 (gy 5 (ajn a0 (90 : UInt8) krf krf (wp 1 (wl (ql ?_)))))
 obtain rfl := oi a1
 exact je hH.kp
 refine wp 3 (wl (ql ?_))
 obtain rfl := oi a1
 exact je hH.kp
 intro w7 G a2
 refine cb hr (fun h9 hr => ?_) (fun h9 hr => ?_)
 refine cr (wp 1 (w8_add a0 (32 : UInt8) krf krf (wp 1 (nq (sr (wp 2 (wl ?_)))))))
 refine qn (ct ?_)
 obtain rfl := oi hr
 exact rv a2.kp
 refine ck (qn (sr (wp 2 (nq (ct ?_)))))
 obtain rfl := oi hr
 exact rv a2.kp
theorem K_L_header_longName {fu : Nat} {a0 : UInt8} {w : World} {r : Str} (hr : aod fu a0 = some r) (hG : Gl w) : CR prog 71 [(bt a0)] w fun v w' => v = (str r) ∧ Hp w [] [] w' := by
 have hH := Hp.refl w
 refine enter (k := 34) func71 rfl rfl nbe ?_
 unfold aod at hr
 refine sr (wp 1 (nq (cs (sr (wp 1 (wl ?_))))))
 refine qn (ce (sr (acx a0 (98 : UInt8) krf krf (wp 1 (nq (cd hr (fun h1 hr => ?_) (fun h1 hr => ?_)))))))
 exact nzz hr
 refine sr (acx a0 (99 : UInt8) krf krf (wp 1 (nq (cd hr (fun h2 hr => ?_) (fun h2 hr => ?_)))))
 exact nzz hr
 refine sr (acx a0 (101 : UInt8) krf krf (wp 1 (nq (cd hr (fun h3 hr => ?_) (fun h3 hr => ?_)))))
 exact nzz hr
 refine sr (acx a0 (102 : UInt8) krf krf (wp 1 (nq (cd hr (fun h4 hr => ?_) (fun h4 hr => ?_)))))
 exact nzz hr
 refine sr (acx a0 (105 : UInt8) krf krf (wp 1 (nq (cd hr (fun h5 hr => ?_) (fun h5 hr => ?_)))))
 exact nzz hr
 refine sr (acx a0 (107 : UInt8) krf krf (wp 1 (nq (cd hr (fun h6 hr => ?_) (fun h6 hr => ?_)))))
 exact nzz hr
 refine sr (acx a0 (108 : UInt8) krf krf (wp 1 (nq (cd hr (fun h7 hr => ?_) (fun h7 hr => ?_)))))
 exact nzz hr
 refine sr (acx a0 (109 : UInt8) krf krf (wp 1 (nq (cd hr (fun h8 hr => ?_) (fun h8 hr => ?_)))))
 refine sr (wp 1 (nq (ct (bt_ (st ?_)))))
 obtain rfl := oi hr
 exact rv hH.kp
 exact nzz hr
theorem aih {fu : Nat} {s_0 : Str} {w : World} {r : Str} (hr : aer fu s_0 = some r) (hG : Gl w) : CR prog 28 [(str s_0), (zap (.func 72) #[] #[])] w fun v w' => v = (str r) ∧ Hp w [] [] w' := by
 have hH := Hp.refl w
 refine enter (k := 26) func28 rfl rfl nbe ?_
 unfold aer at hr
 refine sr (wp 1 (nq (sr (wp 1 (w_tobytes hH s_0 5 underlying9 underlying85 underlying5 krf fun a1 cap2 w3 b2 => wp 1 ?_)))))
 refine nq (bi hr fun b1 b3 hr => cut (σ := Str) [4, 5] (fun a4 => []) (fun a4 w' => Hp w [] [brow (Vs a1 s_0.length cap2) s_0.length a4] w' ∧ a4 = b1) ?_ ?_)
 refine sr (wp 3 (nq (ce (lpG (σ := Nat × Str × Int) [1, 4, 5, 10, 11, 12] (fun ⟨a5, a3, a2⟩ => [(12, (Vi .i64 a2))]) (fun ⟨a5, a3, a2⟩ w' => Hp w [] [brow (Vs a1 s_0.length cap2) s_0.length a3] w' ∧ ady fu s_0 a5 a3 a2 = some b1) (fun ⟨a5, a3, a2⟩ => a5) (fu, s_0, (0 : Int)) (by exact ⟨b2.kp, b3⟩) ?_))))
 rintro ⟨_ | a5, a3, a2⟩ c3 G ⟨a6, a0⟩
 · exact nzz a0
 rw [ady.eq_2] at a0
 refine sr (wp 1 (nq (cs (cd a0 (fun b4 a0 => ?_) (fun b4 a0 => ?_)))))
 refine ck (qn (cs (ce (sr (wp 1 (gi a0 fun b5 a0 => ahl a1 s_0.length cap2 5 1 .i64 a2 underlying85 krf krf krf a3 (a6.browlen 0 rfl).symm b5 (Rd.ofbytes (a6.rdbrow 0 rfl)) akh (by decide) (gi a0 fun b6 a0 => ?_)))))))
 refine apo a1 eB a3 1 a2 akh (Rd.ofbytes (a6.rdbrow 0 rfl)) (bt (at_ a3 a2)) b6 (by decide) krf krf krf (wp 2 (nq (cr (wp 4 (bi a0 fun a7 b7 a0 => wc ent72 a6 (apf b7 (hG.hp0 a6)) fun c4 a8 => gi a0 fun b8 a0 => ahl a1 s_0.length cap2 5 1 .i64 a2 underlying85 krf krf krf a3 (a8.browlen 0 rfl).symm b8 (Rd.ofbytes (a8.rdbrow 0 rfl)) akh (by decide) ?_)))))
 refine gi a0 fun b9 a0 => w_stB a8 0 a1 s_0.length cap2 a2 a3 a7 rfl b9 krf krf krf fun c0 a9 => ?_
 replace a9 : Hp w [] [brow (Vs a1 s_0.length cap2) s_0.length (zal a3 (zac a2) a7)] c0 := a9
 refine wl (bn (qn (cr (gi a0 fun c1 a0 => aae a2 (1 : Int) krf krf c1 (wp 1 (wl (ql ?_)))))))
 exact ⟨(a5, zal a3 (zac a2) a7, a2 + (1 : Int)), _, rfl, by kernel_rfl, ⟨a9.kp, a0⟩, zad _⟩
 refine abq (abp (aby (abr (ql ?_))))
 obtain rfl := oi a0
 exact ⟨a3, _, rfl, by kernel_rfl, a6.kp, rfl⟩
 rintro a4 c2 G ⟨b0, rfl⟩
 refine sr (wp 1 (aes (v := (str a4)) (w' := c2) rfl rfl (apn a4 a1 s_0.length cap2 5 (Rd.bytes (Rd.ofbytes (b0.rdbrow 0 rfl))) (b0.browlen 0 rfl) underlying85 underlying9 underlying5 krf) (wp 1 (nq (ct ?_)))))
 obtain rfl := oi hr
 exact rv b0.kp
theorem K_L_header_Canon {fu : Nat} {a2 : Str} {w : World} {r : (Str × UInt8)} (hr : aol fu a2 = some r) (hG : Gl w) : CR prog 25 [(str a2)] w fun v w' => v = (zak #[(str r.1), (bt r.2)]) ∧ Hp w [] [] w' := by
 have hH := Hp.refl w
 refine enter (k := 42) func25 rfl rfl nbe ?_
 unfold aol at hr
 refine sr (wp 2 (nq (cs (bi hr fun v9 a1 hr => age hH [0, 2, 3, 16] [(16, (Vb (decide ((64 : Int) < (a2.length : Int)))))] ?_ ?_))))
 refine cr (wp 1 (bi a1 fun c5 a8 a1 => wc ent47 hH (aio a8 (hG.hp0 hH)) fun c6 a9 => wp 1 (wb a1 (fun b0 a1 => ?_) (fun b0 a1 => ?_))))
 exact nzz a1
 refine wp 4 (wl (ql ?_))
 obtain rfl := oi a1
 exact je a9.kp
 intro c7 G a3
 refine cd hr (fun b1 hr => ?_) (fun b1 hr => ?_)
 exact nzz hr
 refine ck (qn (cs (sr (wp 3 (nq (cd hr (fun b2 hr => ?_) (fun b2 hr => ?_)))))))
 refine sr (wp 1 (gi hr fun b3 hr => abi a2 .i64 (0 : Int) underlying9 krf krf b3 (bi hr fun c8 b4 hr => wc ent72 a3 (apf b4 (hG.hp0 a3)) fun c9 a4 => bi hr fun d0 b5 hr => wc ent71 a4 (K_L_header_longName b5 (hG.hp0 a4)) fun d1 b6 => wp 1 ?_)))
 refine nq (sr (wp 2 (nq (cn hr (fun b7 hr => ?_) (fun b7 hr => ?_)))))
 refine sr (wp 3 (nq (ct (st ?_))))
 obtain rfl := oi hr
 exact rv b6.kp
 exact nzz hr
 refine ck (qn (sr (wp 1 (bi hr fun b8 b9 hr => wc ent28 a3 (aih b9 (hG.hp0 a3)) fun d2 a5 => wp 1 (nq ?_)))))
 refine cs (sr (w_rdN (some ⟨0, 0, none⟩) (zai eS akg) (Zz49) 0 7 (hG.specials.rd.hp a5) rfl rfl (by decide) krf krf krf (wp 1 (nq (ce (lpS (fun a6 (_ : Unit) => anl fu b8 a6) () a5 hr [0, 2, 3, 5, 30, 29] (fun (_ : Unit) => []) (fun _ => rfl) ?_))))))
 rintro a6 _ d3 G a7 a0
 rw [anl.eq_2] at a0
 refine sr (wp 1 (nq (cs (cd a0 (fun c0 a0 => ?_) (fun c0 a0 => ?_)))))
 refine ck (qn (cs (ce (sr (gi a0 fun c1 a0 => w_ixA eS akg 7 .i64 (0 : Int) (Zz49) (str (el akg (0 : Int))) rfl underlying83 rfl krf krf krf krf krf c1 (wp 1 (wl ?_)))))))
 refine qn (sr (wp 1 (bi a0 fun d4 c2 a0 => wc ent28 a7 (aih c2 (hG.hp0 a7)) fun d5 c3 => wp 2 (nq (cd a0 (fun c4 a0 => ?_) (fun c4 a0 => ?_))))))
 refine sr (wp 3 (nq (ct (bt_ (st (adg (bt_ ?_)))))))
 refine st ?_
 obtain rfl := oi a0
 exact rv c3.kp
 exact nzz a0
 exact nzz a0
open Go.Value renaming agg → zan, func → zap, tuple → zak
open List renaming drop → zam, length_take → zah
theorem ent31 : Wk.Enters prog 31 := ⟨f31, _, func31, rfl, krf⟩
theorem ent78 : Wk.Enters prog 78 := ⟨f78, _, func78, rfl, krf⟩
theorem ent118 : Wk.Enters prog 118 := ⟨f118, _, func118, rfl, krf⟩
theorem ent171 : Wk.Enters prog 171 := ⟨f171, _, func171, rfl, krf⟩
theorem ent205 : Wk.Enters prog 205 := ⟨f205, _, func205, rfl, krf⟩
theorem K_L_header_many {fu : Nat} {a0 : Str} {w : World} {r : Bool} (hr : ars fu a0 = some r) (hG : Gl w) : CR prog 56 [(str a0)] w fun v w' => v = (Vb r) ∧ Hp w [] [] w' := by
 have hH := Hp.refl w
 refine enter (k := 19) func56 rfl rfl nbe ?_
 unfold ars at hr
 refine sr (wp 1 (nq (cs (sr (wp 1 (wl ?_))))))
 refine qn (ce (cs (sr (wp 2 (nq (cd hr (fun h4 hr => ?_) (fun h4 hr => ?_)))))))
 refine ck (qn (cd hr (fun h5 hr => ?_) (fun h5 hr => ?_)))
 refine sr (wp 1 (nq (ct (bt_ (st ?_)))))
 obtain rfl := oi hr
 exact rv hH.kp
 exact nzz hr
 exact nzz hr
theorem ape {fu : Nat} {a1 : UInt8} {w : World} {r : Bool} (hr : ahs fu a1 = some r) (hG : Gl w) : CR prog 78 [(bt a1)] w fun v w' => v = (Vb r) ∧ Hp w [] [] w' := by
 have hH := Hp.refl w
 refine enter (k := 9) func78 rfl rfl nbe ?_
 unfold ahs at hr
 refine sr (wp 1 (nq (bi hr fun v5 a0 hr => age hH [2] [(2, (Vb v5))] ?_ ?_)))
 refine cr (wp 1 (acx a1 (32 : UInt8) krf krf (wd a0 (fun h6 a0 => ?_) (fun h6 a0 => ?_))))
 refine wp 4 (wl (ql ?_))
 obtain rfl := oi a0
 exact je hH.kp
 refine wp 1 (gy 5 (acx a1 (9 : UInt8) krf krf (wp 2 (wl (ql ?_)))))
 obtain rfl := oi a0
 exact je hH.kp
 intro w7 G a2
 refine ct ?_
 obtain rfl := oi hr
 exact rv a2.kp
theorem aoh {fu : Nat} {s_0 : Str} {a3 : Int} {w : World} {r : Int} (hr : agc fu s_0 a3 = some r) (hG : Gl w) : CR prog 76 [(str s_0), (Vi .i64 a3), (zap (.func 78) #[] #[])] w fun v w' => v = (Vi .i64 r) ∧ Hp w [] [] w' := by
 have hH := Hp.refl w
 refine enter (k := 26) func76 rfl rfl nbe ?_
 unfold agc at hr
 refine sr (wp 1 (nq (sr (wp 1 (w_max .i64 a3 (0 : Int) krf krf (wp 2 ?_))))))
 refine w_min .i64 (max a3 (0 : Int)) (s_0.length : Int) krf krf (wp 1 (nq (bi hr fun a7 a8 hr => age hH [1, 6] [(1, (Vi .i64 a7))] ?_ ?_)))
 refine ce (lpS (fun a5 a2 => aca fu s_0 a5 a2) (min (max a3 (0 : Int)) (s_0.length : Int)) hH a8 [0, 1, 2, 6] (fun a2 => [(1, (Vi .i64 a2))]) (fun _ => rfl) ?_)
 rintro a5 a2 b7 G a4 a0
 rw [aca.eq_2] at a0
 refine cs (bi a0 fun a9 a1 a0 => age a4 [0, 1, 2, 6, 22] [(22, (Vb a9))] ?_ ?_)
 refine cr (wp 4 (wd a1 (fun b0 a1 => ?_) (fun b0 a1 => ?_)))
 refine wp 3 (gy 16 (gi a1 fun b1 a1 => abi s_0 .i64 a2 underlying9 krf krf b1 (gy 16 (bi a1 fun b8 b2 a1 => wc ent78 a4 (ape b2 (hG.hp0 a4)) fun b9 b3 => wp 1 (wl (ql ?_))))))
 obtain rfl := oi a1
 exact je b3.kp
 refine wp 6 (wl (ql ?_))
 obtain rfl := oi a1
 exact je a4.kp
 intro c0 G a6
 refine cb a0 (fun b4 a0 => ?_) (fun b4 a0 => ?_)
 refine ck (qn (ce (cr (wp 1 (gi a0 fun b5 a0 => aae a2 (1 : Int) krf krf b5 (wp 1 (wl (bn ?_))))))))
 exact ql (le' (a2 + (1 : Int)) a6.kp a0)
 refine abq (abp (aby (abr (ql ?_))))
 obtain rfl := oi a0
 exact je a6.kp
 intro c1 G b6
 refine sr (wp 2 (nq (ct ?_)))
 obtain rfl := oi hr
 exact rv b6.kp
theorem ams {fu : Nat} {s_0 : Str} {a0 : Int} {w : World} {r : Int} (hr : aig fu s_0 a0 = some r) (hG : Gl w) : CR prog 31 [(str s_0), (Vi .i64 a0)] w fun v w' => v = (Vi .i64 r) ∧ Hp w [] [] w' := by
 have hH := Hp.refl w
 refine enter (k := 8) func31 rfl rfl nbe ?_
 unfold aig at hr
 refine sr (wp 1 (nq (sr (wp 2 (bi hr fun y1 a1 hr => wc ent76 hH (aoh a1 (hG.hp0 hH)) fun w3 a2 => ?_)))))
 refine wp 1 (nq (ct ?_))
 obtain rfl := oi hr
 exact rv a2.kp
theorem K_L_lexis_piece {fu : Nat} {s_0 : Str} {a1 : Int} {a0 : Int} {w : World} {r : (Int × Str)} (hr : api fu s_0 a1 a0 = some r) (hG : Gl w) : CR prog 171 [(str s_0), (Vi .i64 a1), (Vi .i64 a0)] w fun v w' => v = (zan #[(Vi .i64 r.1), (str r.2)]) ∧ Hp w [] [] w' := by
 have hH := Hp.refl w
 refine enter (k := 20) func171 rfl rfl nbe ?_
 unfold api at hr
 refine sr (adr hH (Zz96) 132 (fun b => (Vp (some ⟨b, 0, none⟩))) rfl rfl krf fun b1 w2 a2 => nq (sr (wp 2 (bi hr fun y4 a5 hr => wc ent31 a2 (ams a5 (hG.hp0 a2)) fun w6 a6 => ?_))))
 refine wp 1 (w_min .i64 y4 a0 krf krf (wp 1 (nq (sr (wp 4 (gi hr fun g9 hr => alo s_0 .i64 .i64 (min y4 a0) a0 underlying9 krf krf krf g9 ?_))))))
 refine gi hr fun a7 hr => gi hr fun a8 hr => aat 205 #[] [(str (sub s_0 (min y4 a0) a0)), (str ([32, 9] : Str))] _ ent205 krf krf (sh_TrimRight (sub s_0 (min y4 a0) a0) ([32, 9] : Str) w6 a7 a8) ?_
 rintro _ b0 ⟨rfl, a3⟩
 have a9 := a6.call a3; clear a3
 refine wp 1 (ahq a9 0 b1 0 (Zz96) (Zz76 y4 a0 s_0) 132 [blk b1 (Zz76 y4 a0 s_0) 132] rfl nbe krf krf rfl krf rfl fun b2 a4 => nq (ct ?_))
 obtain rfl := oi hr
 refine aov _ [(zan #[(Vi .i64 (min y4 a0)), (str (Lib.trimRightS (sub s_0 (min y4 a0) a0) ([32, 9] : Str)))])] (zan #[(Vi .i64 (min y4 a0)), (str (Lib.trimRightS (sub s_0 (min y4 a0) a0) ([32, 9] : Str)))]) rfl rfl (abe (ahu a4 0 b1 132 (Zz76 y4 a0 s_0) rfl krf krf krf) agr) rfl ?_
 exact ⟨(by first | rfl | (simp; done) | (simp; omega)), a4.kp⟩
theorem K_L_lexis_Split {fu : Nat} {s_0 : Str} {a8 : UInt8} {w : World} {r : ((List (Int × Str)) × Int × UInt8)} (hr : arq fu s_0 a8 = some r) (hG : Gl w) : CR prog 118 [(str s_0), (bt a8)] w fun v w' => ∃ (o0 : Option Nat), ∃ (a0 : Option Addr), ∃ (cap0 : Nat), v = (zak #[(Vs a0 r.1.length cap0), (Vi .i64 r.2.1), (bt r.2.2)]) ∧ Hp w [] [rwt anz 132 2 o0 a0 cap0 r.1] w' := by
 have hH := Hp.refl w
 refine enter (k := 89) func118 rfl rfl nbe ?_
 unfold arq at hr
 refine sr (wp 3 (nq (cs (bi hr fun g3 a3 hr => age hH [0, 1, 4, 5, 6, 27] [(27, (Vb (decide (a8 = (62 : UInt8)))))] ?_ ?_))))
 refine cr (wp 1 (bi a3 fun g4 d3 a3 => wc ent78 hH (ape d3 (hG.hp0 hH)) fun g5 d4 => wb a3 (fun d5 a3 => ?_) (fun d5 a3 => ?_)))
 exact nzz a3
 refine wp 1 (gy 16 (acx a8 (34 : UInt8) krf krf (wp 1 (wd a3 (fun d6 a3 => ?_) (fun d6 a3 => ?_)))))
 exact nzz a3
 refine wp 1 (gy 20 (acx a8 (60 : UInt8) krf krf (wp 1 (wd a3 (fun d7 a3 => ?_) (fun d7 a3 => ?_)))))
 exact nzz a3
 refine wp 1 (gy 24 (acx a8 (62 : UInt8) krf krf (wp 1 (wl (ql ?_)))))
 obtain rfl := oi a3
 exact je d4.kp
 intro g6 G d8
 refine cd hr (fun d9 hr => ?_) (fun d9 hr => ?_)
 exact nzz hr
 refine ck (qn (sr (wp 1 (nq (sr (wp 1 ?_))))))
 refine nq (bi hr fun c4 e0 hr => cut (σ := ((List (Int × Str)) × Int) × (Option Nat) × (Option Addr) × Nat) [0, 4, 5, 6, 7, 8] (fun ⟨a5, b7, b4, b5⟩ => [(7, (Vs b4 a5.1.length b5)), (8, (Vi .i64 a5.2))]) (fun ⟨a5, b7, b4, b5⟩ w' => Hp w [] [rwt anz 132 2 b7 b4 b5 a5.1] w' ∧ a5 = c4) ?_ ?_)
 refine sr (wp 1 (nq (ce (lpG (σ := Nat × (List (Int × Str)) × Int × Int × (Option Nat) × (Option Addr) × Nat) [0, 1, 4, 5, 6, 7, 8, 9] (fun ⟨a9, a4, b0, a2, b1, a6, a7⟩ => [(7, (Vs a6 a4.length a7)), (8, (Vi .i64 b0)), (9, (Vi .i64 a2))]) (fun ⟨a9, a4, b0, a2, b1, a6, a7⟩ w' => Hp w [] [rwt anz 132 2 b1 a6 a7 a4] w' ∧ aik fu s_0 a8 a9 a4 b0 a2 = some c4) (fun ⟨a9, a4, b0, a2, b1, a6, a7⟩ => a9) (fu, ([] : List (Int × Str)), (0 : Int), (0 : Int), none, none, 0) (by exact ⟨(Hp.nilrw d8 anz 132 2 none).kp, e0⟩) ?_ (mc krf (mc krf (mc krf (mc krf (mc krf (mc (Eq.trans (b := (Vs none 0 0)) krf (aaj lsy)) (mc krf (mc krf rfl))))))))))))
 rintro ⟨_ | a9, a4, b0, a2, b1, a6, a7⟩ e1 G ⟨b6, a1⟩
 · exact nzz a1
 rw [aik.eq_2] at a1
 refine cs (sr (wp 4 (nq (cd a1 (fun e2 a1 => ?_) (fun e2 a1 => ?_)))))
 refine ck (qn (ce (sr (wp 2 (gi a1 fun e3 a1 => abi s_0 .i64 a2 underlying9 krf krf e3 (nq ?_))))))
 refine ce (sr (acx (at_ s_0 a2) (34 : UInt8) krf krf (wp 1 (nq (cd a1 (fun e4 a1 => ?_) (fun e4 a1 => ?_))))))
 exact nzz a1
 refine sr (acx (at_ s_0 a2) (60 : UInt8) krf krf (wp 1 (nq (cd a1 (fun e5 a1 => ?_) (fun e5 a1 => ?_)))))
 refine sr (wp 2 (gi a1 fun e6 a1 => ahd s_0 .i64 a2 underlying9 krf krf e6 (aat 144 #[] [(str (zam (zac a2) s_0)), (bt (62 : UInt8))] _ ent144 krf krf (amx (zam (zac a2) s_0) (62 : UInt8) e1) ?_)))
 rintro _ g7 ⟨rfl, c5⟩
 have e7 := b6.call c5; clear c5
 refine wp 1 (nq (cs (sr (wp 2 (nq (cd a1 (fun e8 a1 => ?_) (fun e8 a1 => ?_)))))))
 exact nzz a1
 refine ck (qn (cr (wp 2 (gi a1 fun e9 a1 => aae (ixb (· == (62 : UInt8)) (zam (zac a2) s_0)) (1 : Int) krf krf e9 (gi a1 fun f0 a1 => aae a2 ((ixb (· == (62 : UInt8)) (zam (zac a2) s_0)) + (1 : Int)) krf krf f0 (wp 1 (wl ?_)))))))
 refine bn (bn (ql ?_))
 exact ⟨(a9, a4, b0, a2 + ((ixb (· == (62 : UInt8)) (zam (zac a2) s_0)) + (1 : Int)), b1, a6, a7), _, rfl, by kernel_rfl, ⟨e7.kp, a1⟩, zad _⟩
 refine sr (acx (at_ s_0 a2) (62 : UInt8) krf krf (wp 1 (nq (cd a1 (fun f1 a1 => ?_) (fun f1 a1 => ?_)))))
 exact nzz a1
 refine sr (wp 1 (acx (at_ s_0 a2) a8 krf krf (wp 1 (nq (cd a1 (fun f2 a1 => ?_) (fun f2 a1 => ?_))))))
 refine sr (wp 4 (bi a1 fun b2 f3 a1 => wc ent171 b6 (K_L_lexis_piece f3 (hG.hp0 b6)) fun g8 f4 => adr f4 [(Vi .i64 b2.1), (str b2.2)] 132 (fun b => (Vs (some ⟨b, 0, none⟩) 1 1)) rfl rfl krf fun b8 g9 c6 => gi a1 fun f5 a1 => adm c6 1 b1 a6 (some ⟨b8, 0, none⟩) a7 1 132 2 24 a4 ([b2] : List (Int × Str)) arl rfl underlying128 (by unfold TI; kernel_rfl) (by decide) (by decide) krf (Eq.trans (b := (Vs (some ⟨b8, 0, none⟩) 1 1)) krf (aaj (by first | rfl | (simp; done) | omega | (simp; omega) | (rw [zah]; omega)))) (c6.rdblk 0 rfl) f5 fun c7 c8 c9 f6 b9 => ?_))
 replace b9 : Hp w [] [blk b8 [(Vi .i64 b2.1), (str b2.2)] 132, rwt anz 132 2 c7 c8 c9 (a4 ++ ([b2] : List (Int × Str)))] f6 := b9
 refine wp 1 (nq (sr (wp 1 (gi a1 fun f7 a1 => aae a2 (1 : Int) krf krf f7 (wp 1 (wl ?_))))))
 refine qn (cr (wp 2 (wl (bn (bn (ql ?_))))))
 exact ⟨(a9, a4 ++ ([b2] : List (Int × Str)), a2 + (1 : Int), a2 + (1 : Int), c7, c8, c9), _, rfl, by kernel_rfl, ⟨(Hp.front b9 1 _ rfl).kp, a1⟩, zad _⟩
 refine cr (wp 1 (gi a1 fun f8 a1 => aae a2 (1 : Int) krf krf f8 (wp 1 (wl (bn (bn (ql ?_)))))))
 exact ⟨(a9, a4, b0, a2 + (1 : Int), b1, a6, a7), _, rfl, by kernel_rfl, ⟨b6.kp, a1⟩, zad _⟩
 refine abq (abp (aby (abr (ql ?_))))
 obtain rfl := oi a1
 exact ⟨((a4, b0), b1, a6, a7), _, rfl, by kernel_rfl, b6.kp, rfl⟩
 rintro ⟨a5, b7, b4, b5⟩ h0 G ⟨d0, rfl⟩
 refine sr (wp 5 (bi hr fun b3 f9 hr => wc ent171 d0 (K_L_lexis_piece f9 (hG.hp0 d0)) fun h1 g0 => adr g0 [(Vi .i64 b3.1), (str b3.2)] 132 (fun b => (Vs (some ⟨b, 0, none⟩) 1 1)) rfl rfl krf fun c0 h2 d1 => gi hr fun g1 hr => adm d1 1 b7 b4 (some ⟨c0, 0, none⟩) b5 1 132 2 24 a5.1 ([b3] : List (Int × Str)) arl rfl underlying128 (by unfold TI; kernel_rfl) (by decide) (by decide) krf (Eq.trans (b := (Vs (some ⟨c0, 0, none⟩) 1 1)) krf (aaj (by first | rfl | (simp; done) | omega | (simp; omega) | (rw [zah]; omega)))) (d1.rdblk 0 rfl) g1 fun d2 c1 c2 g2 c3 => ?_))
 replace c3 : Hp w [] [blk c0 [(Vi .i64 b3.1), (str b3.2)] 132, rwt anz 132 2 d2 c1 c2 (a5.1 ++ ([b3] : List (Int × Str)))] g2 := c3
 refine wp 3 (nq (ct ?_))
 obtain rfl := oi hr
 refine aqp (Vs c1 ((a5.1 ++ ([b3] : List (Int × Str))).length) c2) (Vi .i64 (0 : Int)) (bt (0 : UInt8)) rfl krf krf krf ?_
 exact ⟨d2, c1, c2, (by first | rfl | (simp; done) | (simp; omega)), (Hp.front c3 1 _ rfl).kp⟩
theorem K_L_header_List {fu : Nat} {b5 : Str} {w : World} {r : ((List Str) × UInt8)} (hr : aru fu b5 = some r) (hG : Gl w) : CR prog 58 [(str b5)] w fun v w' => ∃ (o0 : Option Nat), ∃ (a0 : Option Addr), ∃ (cap0 : Nat), v = (zak #[(Vs a0 r.1.length cap0), (bt r.2)]) ∧ Hp w [] [rwt eS 9 1 o0 a0 cap0 r.1] w' := by
 have hH := Hp.refl w
 refine enter (k := 35) func58 rfl rfl nbe ?_
 unfold aru at hr
 refine sr (wp 2 (nq (sr (wp 1 (bi hr fun y1 c5 hr => aat 118 #[] [(str b5), (bt (44 : UInt8))] _ ent118 krf krf (K_L_lexis_Split c5 (hG.hp0 hH)) ?_)))))
 rintro _ w3 ⟨o6, a7, cap8, rfl, b9⟩
 have c6 : Hp w [] [rwt anz 132 2 o6 a7 cap8 y1.1] w3 := Hp.callK (L1 := []) (L2 := []) hH b9; clear b9
 refine wp 7 (nq (cs (sr (wp 1 (afp y1.2.2 (0 : UInt8) krf krf (nq (cn hr (fun h9 hr => ?_) (fun h9 hr => ?_))))))))
 exact nzz hr
 refine ck (qn (sr (wp 1 (nq (bi hr fun c0 c7 hr => cut (σ := (List Str) × (Option Nat) × (Option Addr) × Nat) [2, 3, 7] (fun ⟨a8, b3, a9, b0⟩ => [(7, (Vs a9 a8.length b0))]) (fun ⟨a8, b3, a9, b0⟩ w' => Hp w [] [rwt eS 9 1 b3 a9 b0 a8] w' ∧ a8 = c0) ?_ ?_)))))
 refine sr (wp 3 (nq (ce (lpG (σ := Nat × (List Str) × Int × (Option Nat) × (Option Addr) × Nat) [2, 3, 7, 19, 20, 21] (fun ⟨b1, a3, a1, a6, a4, a5⟩ => [(7, (Vs a4 a3.length a5)), (21, (Vi .i64 a1))]) (fun ⟨b1, a3, a1, a6, a4, a5⟩ w' => Hp w [] [rwt anz 132 2 o6 a7 cap8 y1.1, rwt eS 9 1 a6 a4 a5 a3] w' ∧ alz fu y1 b1 a3 a1 = some c0) (fun ⟨b1, a3, a1, a6, a4, a5⟩ => b1) (fu, ([] : List Str), (0 : Int), none, none, 0) (by exact ⟨(Hp.front (Hp.nilrw c6 eS 9 1 none) 1 _ rfl).kp, c7⟩) ?_ (mc krf (mc krf (mc (Eq.trans (b := (Vs none 0 0)) krf (aaj lsy)) (mc krf (mc krf (mc krf rfl))))))))))
 rintro ⟨_ | b1, a3, a1, a6, a4, a5⟩ d7 G ⟨b4, a2⟩
 · exact nzz a2
 rw [alz.eq_2] at a2
 refine sr (wp 1 (nq (cs (cd a2 (fun c8 a2 => ?_) (fun c8 a2 => ?_)))))
 refine ck (qn (cs (ce (sr (gi a2 fun c9 a2 => ahl a7 y1.1.length cap8 132 2 .i64 a1 underlying128 krf krf krf y1.1 rfl c9 (b4.rdrw 0 rfl) arl (by decide) (gi a2 fun d0 a2 => ajh a7 anz y1.1 2 a1 arl (b4.rdrw 0 rfl) [(Vi .i64 ((el y1.1 a1).1)), (str ((el y1.1 a1).2))] d0 krf krf krf krf (by decide) ?_))))))
 refine adr b4 (Zz96) 132 (fun b => (Vp (some ⟨b, 0, none⟩))) rfl rfl krf fun b2 d8 d1 => ahq d1 0 b2 0 (Zz96) [(Vi .i64 ((el y1.1 a1).1)), (str ((el y1.1 a1).2))] 132 [blk b2 [(Vi .i64 ((el y1.1 a1).1)), (str ((el y1.1 a1).2))] 132, rwt anz 132 2 o6 a7 cap8 y1.1, rwt eS 9 1 a6 a4 a5 a3] rfl nbe krf krf rfl krf rfl fun d9 b6 => nq (cs (sr (wp 1 (abs b6 0 b2 1 [(Vi .i64 ((el y1.1 a1).1)), (str ((el y1.1 a1).2))] 132 (str ((el y1.1 a1).2)) rfl rfl krf krf (wp 1 ?_)))))
 refine nq (cd a2 (fun d2 a2 => ?_) (fun d2 a2 => ?_))
 exact nzz a2
 refine ck (qn (cr (wp 2 (abs b6 0 b2 1 [(Vi .i64 ((el y1.1 a1).1)), (str ((el y1.1 a1).2))] 132 (str ((el y1.1 a1).2)) rfl rfl krf krf (adr b6 [(str ((el y1.1 a1).2))] 9 (fun b => (Vs (some ⟨b, 0, none⟩) 1 1)) rfl rfl krf fun b7 e0 c1 => gi a2 fun d3 a2 => adm c1 3 a6 a4 (some ⟨b7, 0, none⟩) a5 1 9 1 16 a3 ([(el y1.1 a1).2] : List Str) apr rfl underlying70 (by unfold TI; kernel_rfl) (by decide) (by decide) krf (Eq.trans (b := (Vs (some ⟨b7, 0, none⟩) 1 1)) krf (aaj (by first | rfl | (simp; done) | omega | (simp; omega) | (rw [zah]; omega)))) (c1.rdblk 0 rfl) d3 fun c2 c3 c4 d4 b8 => ?_)))))
 replace b8 : Hp w [] [blk b7 [(str ((el y1.1 a1).2))] 9, blk b2 [(Vi .i64 ((el y1.1 a1).1)), (str ((el y1.1 a1).2))] 132, rwt anz 132 2 o6 a7 cap8 y1.1, rwt eS 9 1 c2 c3 c4 (a3 ++ ([(el y1.1 a1).2] : List Str))] d4 := b8
 refine wp 1 (wl (bn (qn (cr (gi a2 fun d5 a2 => aae a1 (1 : Int) krf krf d5 (wp 1 (wl (ql ?_))))))))
 exact ⟨(b1, a3 ++ ([(el y1.1 a1).2] : List Str), a1 + (1 : Int), c2, c3, c4), _, rfl, by kernel_rfl, ⟨(Hp.front (Hp.front b8 3 _ rfl) 3 _ rfl).kp, a2⟩, zad _⟩
 refine abq (abp (aby (abr (ql ?_))))
 obtain rfl := oi a2
 exact ⟨(a3, a6, a4, a5), _, rfl, by kernel_rfl, (Hp.front b4 1 _ rfl).kp, rfl⟩
 rintro ⟨a8, b3, a9, b0⟩ e1 G ⟨d6, rfl⟩
 refine sr (wp 3 (nq (ct ?_)))
 obtain rfl := oi hr
 refine r_two (Vs a9 a8.length b0) (bt (0 : UInt8)) rfl krf krf ?_
 exact ⟨b3, a9, b0, (by first | rfl | (simp; done) | (simp; omega)), d6.kp⟩
theorem K_L_header_kindOf {fu : Nat} {a3 : Str} {w : World} {r : Int} (hr : apw fu a3 = some r) (hG : Gl w) : CR prog 114 [(str a3)] w fun v w' => v = (Vi .i64 r) ∧ Hp w [] [] w' := by
 have hH := Hp.refl w
 refine enter (k := 18) func114 rfl rfl nbe ?_
 unfold apw at hr
 refine sr (wp 1 (nq (cs (sr (wp 1 (wl ?_))))))
 refine qn (ce (lpS (fun a4 a1 => akk fu a3 a4 a1) (0 : Int) hH hr [0, 2, 4] (fun a1 => [(4, (Vi .i64 a1))]) (fun _ => rfl) ?_))
 rintro a4 a1 b2 G a2 a0
 rw [akk.eq_2] at a0
 refine sr (wp 1 (nq (cs (cd a0 (fun a5 a0 => ?_) (fun a5 a0 => ?_)))))
 refine ck (qn (cs (ce (sr (wp 2 (nq (cs ?_)))))))
 refine cr (wp 1 (gi a0 fun a6 a0 => w_ixaA ⟨1, 0, none⟩ 31 170 2 .i64 a1 underlying171 krf krf krf a6 (by decide) (w_fldE (some ⟨1, 0, none⟩) ((a1).toNat * 2) 0 krf krf (gi a0 fun a7 a0 => w_ldF (some ⟨1, 0, none⟩) aps anc 2 a1 0 enc_enamekind (hG.kinds.rd.hp a2) (str ((el anc a1).1)) a7 (by decide) krf krf krf (wp 2 (nq (cd a0 (fun a8 a0 => ?_) (fun a8 a0 => ?_))))))))
 refine sr (wp 1 (gi a0 fun a9 a0 => w_ixaA ⟨1, 0, none⟩ 31 170 2 .i64 a1 underlying171 krf krf krf a9 (by decide) (w_fldE (some ⟨1, 0, none⟩) ((a1).toNat * 2) 1 krf krf (gi a0 fun b0 a0 => w_ldF (some ⟨1, 0, none⟩) aps anc 2 a1 1 enc_enamekind (hG.kinds.rd.hp a2) (Vi .i64 ((el anc a1).2)) b0 (by decide) krf krf krf (wp 1 (wl ?_))))))
 refine qn (ct (bt_ (st (adg (bt_ (st ?_))))))
 obtain rfl := oi a0
 exact rv a2.kp
 exact ck (bn (qn (cr (gi a0 fun b1 a0 => aae a1 (1 : Int) krf krf b1 (wp 1 (wl (ql (le' (a1 + (1 : Int)) a2.kp a0))))))))
 exact nzz a0
open Go.Lib renaming indexAny → zaC, join → zaB
open Go.Value renaming agg → zan, tuple → zak
open List renaming drop → zam, length_take → zah, set → zal
open Nat renaming lt_of_lt_of_le → zaj, lt_succ_self → zad
theorem ent32 : Wk.Enters prog 32 := ⟨f32, _, func32, rfl, krf⟩
theorem ent59 : Wk.Enters prog 59 := ⟨f59, _, func59, rfl, krf⟩
theorem ent75 : Wk.Enters prog 75 := ⟨f75, _, func75, rfl, krf⟩
theorem ent88 : Wk.Enters prog 88 := ⟨f88, _, func88, rfl, krf⟩
theorem ent89 : Wk.Enters prog 89 := ⟨f89, _, func89, rfl, krf⟩
theorem ent90 : Wk.Enters prog 90 := ⟨f90, _, func90, rfl, krf⟩
theorem ent156 : Wk.Enters prog 156 := ⟨f156, _, func156, rfl, krf⟩
theorem anq {fu : Nat} {s_0 : Str} {w : World} {r : Str} (hr : ajd fu s_0 = some r) (hG : Gl w) : CR prog 27 [(str s_0)] w fun v w' => v = (str r) ∧ Hp w [] [] w' := by
 have hH := Hp.refl w
 refine enter (k := 5) func27 rfl rfl nbe ?_
 unfold ajd at hr
 refine sr (wp 1 (nq (sr (wp 1 (gi hr fun g4 hr => gi hr fun g5 hr => ?_)))))
 refine aat 75 #[] [(str s_0), (str ([32, 9] : Str))] _ ent75 krf krf (sh_Trim s_0 ([32, 9] : Str) w g4 g5) ?_
 rintro _ w1 ⟨rfl, a0⟩
 have a1 := hH.call a0; clear a0
 refine wp 1 (nq (ct ?_))
 obtain rfl := oi hr
 exact rv a1.kp
theorem aet {fu : Nat} {a0 : (Str × Int)} (a1 : Nat) {w : World} {r : (Str × Int)} (hr : adc fu a0 = some r) (hG : Gl w) (hM : Hp w (abh [blk a1 [(str a0.1), (Vi .i64 a0.2)] 99]) [blk a1 [(str a0.1), (Vi .i64 a0.2)] 99] w) (hS : ∀ b ∈ abh [blk a1 [(str a0.1), (Vi .i64 a0.2)] 99], 9 ≤ b) : CR prog 88 [(Vp (some ⟨a1, 0, none⟩))] w fun v w' => v = (zak #[]) ∧ Hp w (abh [blk a1 [(str a0.1), (Vi .i64 a0.2)] 99]) [blk a1 [(str r.1), (Vi .i64 r.2)] 99] w' := by
 have hH : Hp w (abh (Zz40 a1 a0.1 a0.2)) (Zz40 a1 a0.1 a0.2) w := hM
 refine enter (k := 15) func88 rfl rfl nbe ?_
 unfold adc at hr
 refine bi hr fun y1 a3 hr => aeh 11 (fun j_ w_ w_' => aay [10, 11, 12, 13] (fun w' => w'.heap[a1]? = some (.cells (Zz8 a0.1 a0.2).toArray 99 (0, 0))) j_ w_ w_' ∧ True) (Zz66) (fun _ _ => ⟨aay.same, trivial⟩) krf krf hH rfl adb fun w6 a2 => rp 6 [0, 1, 2, 3, 4] (aal (Zz70) 5 7 (str a0.1) [10, 11, 12, 13] (fun _ _ _ h => h.1) _ rfl rfl krf krf krf krf krf rfl (aba rfl (by intro w hS_; exact (aga a1 0 (Zz8 a0.1 a0.2) 99 (str a0.1) hS_ rfl krf krf))) (by exact a2.blkAt 0 rfl) (rp 2 [6, 7, 8] (aal (Zz71) 9 11 (Vi .i64 a0.2) [10, 11, 12, 13] (fun _ _ _ h => h.1) _ rfl rfl krf krf krf krf krf rfl (aba rfl (by intro w hS_; exact (aga a1 1 (Zz8 a0.1 a0.2) 99 (Vi .i64 a0.2) hS_ rfl krf krf))) (by exact a2.blkAt 0 rfl) (ro 10 rfl (wc ent31 a2 (ams a3 (hG.hp a2 hS)) fun w3 a4 => wl (abu (by exact ⟨aay.out rfl, trivial⟩) ?_))))))
 refine adn krf (wp 2 (aib a4 0 a1 1 (Zz8 a0.1 a0.2) 99 (Vi .i64 y1) (Zz40 a1 a0.1 y1) rfl (zaj (zad _) nbe) krf krf rfl krf rfl fun w8 a5 => wl ?_))
 obtain rfl := oi hr
 refine aju  rfl  ?_
 exact ⟨(by first | rfl | (simp; done) | (simp; omega)), a5.kp⟩
theorem agn {fu : Nat} {a0 : (Str × Int)} (a1 : Nat) {w : World} {r : Bool} (hr : aex fu a0 = some r) (hG : Gl w) (hM : Hp w (abh [blk a1 [(str a0.1), (Vi .i64 a0.2)] 99]) [blk a1 [(str a0.1), (Vi .i64 a0.2)] 99] w) (hS : ∀ b ∈ abh [blk a1 [(str a0.1), (Vi .i64 a0.2)] 99], 9 ≤ b) : CR prog 89 [(Vp (some ⟨a1, 0, none⟩))] w fun v w' => v = (Vb r) ∧ Hp w (abh [blk a1 [(str a0.1), (Vi .i64 a0.2)] 99]) [blk a1 [(str a0.1), (Vi .i64 a0.2)] 99] w' := by
 have hH : Hp w (abh (Zz40 a1 a0.1 a0.2)) (Zz40 a1 a0.1 a0.2) w := hM
 refine enter (k := 14) func89 rfl rfl nbe ?_
 unfold aex at hr
 refine sr (wp 1 (nq (cs (aeh 10 (fun j_ w_ w_' => aay [10, 11] (fun w' => w'.heap[a1]? = some (.cells (Zz8 a0.1 a0.2).toArray 99 (0, 0))) j_ w_ w_' ∧ aay [9, 10, 11] (fun w' => w'.heap[a1]? = some (.cells (Zz8 a0.1 a0.2).toArray 99 (0, 0))) j_ w_ w_' ∧ True) (Zz51) (fun _ _ => ⟨aay.same, aay.same, trivial⟩) krf krf hH rfl (ade adb) fun w1 a2 => rp 7 [0, 1, 2] (aal (Zz72) 3 6 (Vi .i64 a0.2) [10, 11] (fun _ _ _ h => h.1) _ rfl rfl krf krf krf krf krf rfl (aba rfl (by intro w hS_; exact (aga a1 1 (Zz8 a0.1 a0.2) 99 (Vi .i64 a0.2) hS_ rfl krf krf))) (by exact a2.blkAt 0 rfl) (rp 2 [4, 5, 6, 7] ?_))))))
 refine aal (Zz64) 8 11 (str a0.1) [9, 10, 11] (fun _ _ _ h => h.2.1) _ rfl rfl krf krf krf krf krf rfl (aba rfl (by intro w hS_; exact (aga a1 0 (Zz8 a0.1 a0.2) 99 (str a0.1) hS_ rfl krf krf))) (by exact a2.blkAt 0 rfl) (rp 0 [9] (adn krf (wp 2 (nq (ct ?_)))))
 obtain rfl := oi hr
 refine r_one (Vb (decide ((a0.1.length : Int) ≤ a0.2))) rfl krf ?_
 exact ⟨(by first | rfl | (simp; done) | (simp; omega)), a2.kp⟩
theorem act {fu : Nat} {a0 : (Str × Int)} {a8 : UInt8} (a1 : Nat) {w : World} {r : Bool} (hr : abn fu a0 a8 = some r) (hG : Gl w) (hM : Hp w (abh [blk a1 [(str a0.1), (Vi .i64 a0.2)] 99]) [blk a1 [(str a0.1), (Vi .i64 a0.2)] 99] w) (hS : ∀ b ∈ abh [blk a1 [(str a0.1), (Vi .i64 a0.2)] 99], 9 ≤ b) : CR prog 90 [(Vp (some ⟨a1, 0, none⟩)), (bt a8)] w fun v w' => v = (Vb r) ∧ Hp w (abh [blk a1 [(str a0.1), (Vi .i64 a0.2)] 99]) [blk a1 [(str a0.1), (Vi .i64 a0.2)] 99] w' := by
 have hH : Hp w (abh (Zz40 a1 a0.1 a0.2)) (Zz40 a1 a0.1 a0.2) w := hM
 refine enter (k := 22) func90 rfl rfl nbe ?_
 unfold abn at hr
 refine sr (wp 1 (nq (bi hr fun b1 a2 hr => age hH [4] [(4, (Vb b1))] ?_ ?_)))
 refine bi a2 fun a9 b2 a2 => ?_
 rcases Bool.eq_false_or_eq_true (!a9) with a4 | a4
 replace a2 := cft a4 a2
 refine gi a2 fun b3 a2 => aeh 15 (fun j_ w_ w_' => aay [13, 15, 16, 17] (fun w' => w'.heap[a1]? = some (.cells (Zz8 a0.1 a0.2).toArray 99 (0, 0))) j_ w_ w_' ∧ True) (Zz81) (fun _ _ => ⟨aay.same, trivial⟩) krf krf hH rfl (aam adb) fun b5 a6 => rp 14 [0] (ro 1 rfl (aat 89 #[] (Zz45 a1) _ ent89 krf krf (agn a1 b2 (hG.hp a6 hS) (a6.hand (L1 := (Zz40 a1 a0.1 a0.2)) (L2 := [])) (a6.highs hG hS 1 rfl)) ?_))
 rintro _ b0 ⟨rfl, a5⟩
 have a3 : Hp w (abh (Zz40 a1 a0.1 a0.2)) (Zz40 a1 a0.1 a0.2) b0 := Hp.callK (L1 := (Zz40 a1 a0.1 a0.2)) (L2 := []) a6 a5; clear a5
 refine wl (abu (by exact ⟨aay.new (a3.blkAt 0 rfl), trivial⟩) (rp 12 [2] (rt 3 (Vb true) rfl rfl (aba rfl (by intro w hS_; exact Eq.trans (b := Result.ok (Next.value (.bool (!a9))) w) krf (congrArg (fun b => Result.ok (Next.value (.bool b)) w) a4))) (rp 7 [4, 5, 6, 7] (aal [true, true, true, true, true, true, true, true, true, false, false, false, false, false, false, false, false, false] 8 13 (str a0.1) [13, 15, 16, 17] (fun _ _ _ h => h.1) _ rfl rfl krf krf krf krf krf rfl (aei 8 krf krf krf (by intro w hS_; exact (aga a1 0 (Zz8 a0.1 a0.2) 99 (str a0.1) hS_ rfl krf krf))) (by exact a3.blkAt 0 rfl) (rp 3 [9, 10, 11] (aal (Zz29) 12 17 (Vi .i64 a0.2) [13, 15, 16, 17] (fun _ _ _ h => h.1) _ rfl rfl krf krf krf krf krf rfl (aei 8 krf krf krf (by intro w hS_; exact (aga a1 1 (Zz8 a0.1 a0.2) 99 (Vi .i64 a0.2) hS_ rfl krf krf))) (by exact a3.blkAt 0 rfl) (rt 13 (bt (at_ a0.1 a0.2)) rfl rfl (aei 8 krf krf krf (by intro w hS_; exact (x_index a0.1 .i64 a0.2 underlying9 krf krf b3))) (rp 0 [14] ?_)))))))))
 refine adn krf (gy 8 (acx (at_ a0.1 a0.2) a8 krf krf (wp 2 (wl (ql ?_)))))
 obtain rfl := oi a2
 exact je a3.kp
 replace a2 := cff a4 a2
 refine aeh 15 (fun j_ w_ w_' => aay [13, 15, 16, 17] (fun w' => w'.heap[a1]? = some (.cells (Zz8 a0.1 a0.2).toArray 99 (0, 0))) j_ w_ w_' ∧ True) (Zz81) (fun _ _ => ⟨aay.same, trivial⟩) krf krf hH rfl (aam adb) fun b6 a7 => rp 14 [0] (ro 1 rfl (aat 89 #[] (Zz45 a1) _ ent89 krf krf (agn a1 b2 (hG.hp a7 hS) (a7.hand (L1 := (Zz40 a1 a0.1 a0.2)) (L2 := [])) (a7.highs hG hS 1 rfl)) ?_))
 rintro _ b0 ⟨rfl, a5⟩
 have a3 : Hp w (abh (Zz40 a1 a0.1 a0.2)) (Zz40 a1 a0.1 a0.2) b0 := Hp.callK (L1 := (Zz40 a1 a0.1 a0.2)) (L2 := []) a7 a5; clear a5
 refine wl (abu (by exact ⟨aay.new (a3.blkAt 0 rfl), trivial⟩) (rp 12 [2] (rt 3 (Vb false) rfl rfl (aba rfl (by intro w hS_; exact Eq.trans (b := Result.ok (Next.value (.bool (!a9))) w) krf (congrArg (fun b => Result.ok (Next.value (.bool b)) w) a4))) (rp 0 [4, 5, 6, 7, 8, 9, 10, 11, 12, 13, 14] (adn krf (wp 3 (wl (ql ?_))))))))
 obtain rfl := oi a2
 exact je a3.kp
 intro b7 G b4
 refine ct ?_
 obtain rfl := oi hr
 refine r_one (Vb b1) rfl krf ?_
 exact ⟨(by first | rfl | (simp; done) | (simp; omega)), b4.kp⟩
theorem akb {fu : Nat} {a0 : (Str × Int)} (a1 : Nat) {w : World} {r : (Str × (Str × Int))} (hr : aew fu a0 = some r) (hG : Gl w) (hM : Hp w (abh [blk a1 [(str a0.1), (Vi .i64 a0.2)] 99]) [blk a1 [(str a0.1), (Vi .i64 a0.2)] 99] w) (hS : ∀ b ∈ abh [blk a1 [(str a0.1), (Vi .i64 a0.2)] 99], 9 ≤ b) : CR prog 156 [(Vp (some ⟨a1, 0, none⟩))] w fun v w' => v = (str r.1) ∧ Hp w (abh [blk a1 [(str a0.1), (Vi .i64 a0.2)] 99]) [blk a1 [(str r.2.1), (Vi .i64 r.2.2)] 99] w' := by
 have hH : Hp w (abh (Zz40 a1 a0.1 a0.2)) (Zz40 a1 a0.1 a0.2) w := hM
 refine enter (k := 29) func156 rfl rfl nbe ?_
 unfold aew at hr
 refine sr (wp 1 (nq (sr (wp 3 (abs hH 0 a1 1 (Zz8 a0.1 a0.2) 99 (Vi .i64 a0.2) rfl rfl krf krf (wp 1 ?_))))))
 refine nq (sr (wp 5 (abs hH 0 a1 0 (Zz8 a0.1 a0.2) 99 (str a0.1) rfl rfl krf krf (wp 1 (bi hr fun y1 a3 hr => wc ent30 hH (anp a3 (hG.hp hH hS)) fun w3 a4 => wp 2 ?_)))))
 refine aib a4 0 a1 1 (Zz8 a0.1 a0.2) 99 (Vi .i64 y1) (Zz40 a1 a0.1 y1) rfl (zaj (zad _) nbe) krf krf rfl krf rfl fun w6 a5 => nq (cs (aeh 10 (fun j_ w_ w_' => aay [10, 11] (fun w' => w'.heap[a1]? = some (.cells (Zz8 a0.1 y1).toArray 99 (0, 0))) j_ w_ w_' ∧ True) (Zz51) (fun _ _ => ⟨aay.same, trivial⟩) krf krf a5 rfl (ade adb) fun w8 a2 => rp 6 [0, 1, 2, 3] (aal (Zz59) 4 22 (str a0.1) [10, 11] (fun _ _ _ h => h.1) _ rfl rfl krf krf krf krf krf rfl (aba rfl (by intro w hS_; exact (aga a1 0 (Zz8 a0.1 y1) 99 (str a0.1) hS_ rfl krf krf))) (by exact a2.blkAt 0 rfl) (rp 1 [5, 6, 7, 8] (aal [true, true, true, true, true, true, true, true, true, true, false, false] 9 27 (Vi .i64 y1) [10, 11] (fun _ _ _ h => h.1) _ rfl rfl krf krf krf krf krf rfl (aba rfl (by intro w hS_; exact (aga a1 1 (Zz8 a0.1 y1) 99 (Vi .i64 y1) hS_ rfl krf krf))) (by exact a2.blkAt 0 rfl) (adn krf ?_))))))
 refine gi hr fun a6 hr => alo a0.1 .i64 .i64 a0.2 y1 underlying9 krf krf krf a6 (wp 1 (nq (ct ?_)))
 obtain rfl := oi hr
 refine r_one (str (sub a0.1 a0.2 y1)) rfl krf ?_
 exact ⟨(by first | rfl | (simp; done) | (simp; omega)), a2.kp⟩
theorem apj {fu : Nat} {b2 : (Str × Int)} {a3 : (Str × (Str × Str × Str × Int × (List PQ) × (List PQ)) × (List PQ))} (b0 : Nat) (b1 : Nat) (b3 : Option Nat) (a4 : Option Addr) (a5 : Nat) (b4 : Option Nat) (a6 : Option Addr) (a7 : Nat) (b5 : Option Nat) (a8 : Option Addr) (a9 : Nat) {w : World} {r : (Int × UInt8 × (Str × Int) × (Str × (Str × Str × Str × Int × (List PQ) × (List PQ)) × (List PQ)))} (hr : aiv fu b2 a3 = some r) (hG : Gl w) (hM : Hp w (abh [blk b0 [(str b2.1), (Vi .i64 b2.2)] 99, blk b1 [(str a3.1), (str a3.2.1.1), (str a3.2.1.2.1), (str a3.2.1.2.2.1), (Vi .i64 a3.2.1.2.2.2.1), (Vs a4 a3.2.1.2.2.2.2.1.length a5), (Vs a6 a3.2.1.2.2.2.2.2.length a7), (Vs a8 a3.2.2.length a9)] 38, rwt aaa 65 3 b3 a4 a5 a3.2.1.2.2.2.2.1, rwt aaa 65 3 b4 a6 a7 a3.2.1.2.2.2.2.2, rwt aaa 65 3 b5 a8 a9 a3.2.2]) [blk b0 [(str b2.1), (Vi .i64 b2.2)] 99, blk b1 [(str a3.1), (str a3.2.1.1), (str a3.2.1.2.1), (str a3.2.1.2.2.1), (Vi .i64 a3.2.1.2.2.2.1), (Vs a4 a3.2.1.2.2.2.2.1.length a5), (Vs a6 a3.2.1.2.2.2.2.2.length a7), (Vs a8 a3.2.2.length a9)] 38, rwt aaa 65 3 b3 a4 a5 a3.2.1.2.2.2.2.1, rwt aaa 65 3 b4 a6 a7 a3.2.1.2.2.2.2.2, rwt aaa 65 3 b5 a8 a9 a3.2.2] w) (hS : ∀ b ∈ abh [blk b0 [(str b2.1), (Vi .i64 b2.2)] 99, blk b1 [(str a3.1), (str a3.2.1.1), (str a3.2.1.2.1), (str a3.2.1.2.2.1), (Vi .i64 a3.2.1.2.2.2.1), (Vs a4 a3.2.1.2.2.2.2.1.length a5), (Vs a6 a3.2.1.2.2.2.2.2.length a7), (Vs a8 a3.2.2.length a9)] 38, rwt aaa 65 3 b3 a4 a5 a3.2.1.2.2.2.2.1, rwt aaa 65 3 b4 a6 a7 a3.2.1.2.2.2.2.2, rwt aaa 65 3 b5 a8 a9 a3.2.2], 9 ≤ b) : CR prog 121 [(Vp (some ⟨b0, 0, none⟩)), (Vp (some ⟨b1, 0, none⟩))] w fun v w' => ∃ (o0 : Option Nat), ∃ (a0 : Option Addr), ∃ (cap0 : Nat), ∃ (o1 : Option Nat), ∃ (a1 : Option Addr), ∃ (cap1 : Nat), ∃ (o2 : Option Nat), ∃ (a2 : Option Addr), ∃ (cap2 : Nat), v = (zak #[(Vi .i64 r.1), (bt r.2.1)]) ∧ Hp w (abh [blk b0 [(str b2.1), (Vi .i64 b2.2)] 99, blk b1 [(str a3.1), (str a3.2.1.1), (str a3.2.1.2.1), (str a3.2.1.2.2.1), (Vi .i64 a3.2.1.2.2.2.1), (Vs a4 a3.2.1.2.2.2.2.1.length a5), (Vs a6 a3.2.1.2.2.2.2.2.length a7), (Vs a8 a3.2.2.length a9)] 38, rwt aaa 65 3 b3 a4 a5 a3.2.1.2.2.2.2.1, rwt aaa 65 3 b4 a6 a7 a3.2.1.2.2.2.2.2, rwt aaa 65 3 b5 a8 a9 a3.2.2]) [blk b0 [(str r.2.2.1.1), (Vi .i64 r.2.2.1.2)] 99, blk b1 [(str r.2.2.2.1), (str r.2.2.2.2.1.1), (str r.2.2.2.2.1.2.1), (str r.2.2.2.2.1.2.2.1), (Vi .i64 r.2.2.2.2.1.2.2.2.1), (Vs a0 r.2.2.2.2.1.2.2.2.2.1.length cap0), (Vs a1 r.2.2.2.2.1.2.2.2.2.2.length cap1), (Vs a2 r.2.2.2.2.2.length cap2)] 38, rwt aaa 65 3 o0 a0 cap0 r.2.2.2.2.1.2.2.2.2.1, rwt aaa 65 3 o1 a1 cap1 r.2.2.2.2.1.2.2.2.2.2, rwt aaa 65 3 o2 a2 cap2 r.2.2.2.2.2] w' := by
 have hH : Hp w (abh [blk b0 (Zz8 b2.1 b2.2) 99, blk b1 (Zz5 a3.1 a3.2.1.1 a3.2.1.2.1 a3.2.1.2.2.1 a3.2.1.2.2.2.1 a4 a3.2.1.2.2.2.2.1.length a5 a6 a3.2.1.2.2.2.2.2.length a7 a8 a3.2.2.length a9) 38, rwt aaa 65 3 b3 a4 a5 a3.2.1.2.2.2.2.1, rwt aaa 65 3 b4 a6 a7 a3.2.1.2.2.2.2.2, rwt aaa 65 3 b5 a8 a9 a3.2.2]) [blk b0 (Zz8 b2.1 b2.2) 99, blk b1 (Zz5 a3.1 a3.2.1.1 a3.2.1.2.1 a3.2.1.2.2.1 a3.2.1.2.2.2.1 a4 a3.2.1.2.2.2.2.1.length a5 a6 a3.2.1.2.2.2.2.2.length a7 a8 a3.2.2.length a9) 38, rwt aaa 65 3 b3 a4 a5 a3.2.1.2.2.2.2.1, rwt aaa 65 3 b4 a6 a7 a3.2.1.2.2.2.2.2, rwt aaa 65 3 b5 a8 a9 a3.2.2] w := hM
 refine enter (k := 30) func121 rfl rfl nbe ?_
 unfold aiv at hr
 refine sr (wp 2 (nq (sr (wp 1 (nq ?_)))))
 refine bi hr fun d9 e6 hr => cut (σ := ((List Str) × Str × Int) × (Option Nat) × (Option Addr) × Nat) [1, 4, 5, 6] (fun ⟨b9, d3, c5, c6⟩ => [(6, (Vs c5 b9.1.length c6))]) (fun ⟨b9, d3, c5, c6⟩ w' => Hp w (abh [blk b0 (Zz8 b2.1 b2.2) 99, blk b1 (Zz5 a3.1 a3.2.1.1 a3.2.1.2.1 a3.2.1.2.2.1 a3.2.1.2.2.2.1 a4 a3.2.1.2.2.2.2.1.length a5 a6 a3.2.1.2.2.2.2.2.length a7 a8 a3.2.2.length a9) 38, rwt aaa 65 3 b3 a4 a5 a3.2.1.2.2.2.2.1, rwt aaa 65 3 b4 a6 a7 a3.2.1.2.2.2.2.2, rwt aaa 65 3 b5 a8 a9 a3.2.2]) [blk b0 (Zz8 b9.2.1 b9.2.2) 99, blk b1 (Zz5 a3.1 a3.2.1.1 a3.2.1.2.1 a3.2.1.2.2.1 a3.2.1.2.2.2.1 a4 a3.2.1.2.2.2.2.1.length a5 a6 a3.2.1.2.2.2.2.2.length a7 a8 a3.2.2.length a9) 38, rwt aaa 65 3 b3 a4 a5 a3.2.1.2.2.2.2.1, rwt aaa 65 3 b4 a6 a7 a3.2.1.2.2.2.2.2, rwt aaa 65 3 b5 a8 a9 a3.2.2, rwt eS 9 1 d3 c5 c6 b9.1] w' ∧ b9 = d9) ?_ ?_
 refine ce (lpG (σ := Nat × (List Str) × Str × Int × (Option Nat) × (Option Addr) × Nat) [0, 1, 4, 5, 6] (fun ⟨c8, b7, c3, c4, c2, c0, c1⟩ => [(6, (Vs c0 b7.length c1))]) (fun ⟨c8, b7, c3, c4, c2, c0, c1⟩ w' => Hp w (abh [blk b0 (Zz8 b2.1 b2.2) 99, blk b1 (Zz5 a3.1 a3.2.1.1 a3.2.1.2.1 a3.2.1.2.2.1 a3.2.1.2.2.2.1 a4 a3.2.1.2.2.2.2.1.length a5 a6 a3.2.1.2.2.2.2.2.length a7 a8 a3.2.2.length a9) 38, rwt aaa 65 3 b3 a4 a5 a3.2.1.2.2.2.2.1, rwt aaa 65 3 b4 a6 a7 a3.2.1.2.2.2.2.2, rwt aaa 65 3 b5 a8 a9 a3.2.2]) [blk b0 (Zz8 c3 c4) 99, blk b1 (Zz5 a3.1 a3.2.1.1 a3.2.1.2.1 a3.2.1.2.2.1 a3.2.1.2.2.2.1 a4 a3.2.1.2.2.2.2.1.length a5 a6 a3.2.1.2.2.2.2.2.length a7 a8 a3.2.2.length a9) 38, rwt aaa 65 3 b3 a4 a5 a3.2.1.2.2.2.2.1, rwt aaa 65 3 b4 a6 a7 a3.2.1.2.2.2.2.2, rwt aaa 65 3 b5 a8 a9 a3.2.2, rwt eS 9 1 c2 c0 c1 b7] w' ∧ afu fu c8 b7 c3 c4 = some d9) (fun ⟨c8, b7, c3, c4, c2, c0, c1⟩ => c8) (fu, ([] : List Str), b2.1, b2.2, none, none, 0) (by exact ⟨(Hp.front (Hp.front (Hp.front (Hp.front (Hp.front (Hp.nilrw hH eS 9 1 none) 5 _ rfl) 5 _ rfl) 5 _ rfl) 5 _ rfl) 5 _ rfl).kp, e6⟩) ?_ (mc krf (mc krf (mc krf (mc krf (mc (Eq.trans (b := (Vs none 0 0)) krf (aaj lsy)) rfl))))))
 rintro ⟨_ | c8, b7, c3, c4, c2, c0, c1⟩ g2 G ⟨d4, b8⟩
 · exact nzz b8
 rw [afu.eq_2] at b8
 refine cs (sr (wp 1 (bi b8 fun g3 e7 b8 => aat 90 #[] [(Vp (some ⟨b0, 0, none⟩)), (bt (60 : UInt8))] _ ent90 krf krf (act b0 e7 (hG.hp d4 hS) (d4.hand (L1 := [blk b0 (Zz8 c3 c4) 99]) (L2 := [blk b1 (Zz5 a3.1 a3.2.1.1 a3.2.1.2.1 a3.2.1.2.2.1 a3.2.1.2.2.2.1 a4 a3.2.1.2.2.2.2.1.length a5 a6 a3.2.1.2.2.2.2.2.length a7 a8 a3.2.2.length a9) 38, rwt aaa 65 3 b3 a4 a5 a3.2.1.2.2.2.2.1, rwt aaa 65 3 b4 a6 a7 a3.2.1.2.2.2.2.2, rwt aaa 65 3 b5 a8 a9 a3.2.2, rwt eS 9 1 c2 c0 c1 b7])) (d4.highs hG hS 1 rfl)) ?_)))
 rintro _ e8 ⟨rfl, e0⟩
 have d2 : Hp w (abh [blk b0 (Zz8 b2.1 b2.2) 99, blk b1 (Zz5 a3.1 a3.2.1.1 a3.2.1.2.1 a3.2.1.2.2.1 a3.2.1.2.2.2.1 a4 a3.2.1.2.2.2.2.1.length a5 a6 a3.2.1.2.2.2.2.2.length a7 a8 a3.2.2.length a9) 38, rwt aaa 65 3 b3 a4 a5 a3.2.1.2.2.2.2.1, rwt aaa 65 3 b4 a6 a7 a3.2.1.2.2.2.2.2, rwt aaa 65 3 b5 a8 a9 a3.2.2]) [blk b0 (Zz8 c3 c4) 99, blk b1 (Zz5 a3.1 a3.2.1.1 a3.2.1.2.1 a3.2.1.2.2.1 a3.2.1.2.2.2.1 a4 a3.2.1.2.2.2.2.1.length a5 a6 a3.2.1.2.2.2.2.2.length a7 a8 a3.2.2.length a9) 38, rwt aaa 65 3 b3 a4 a5 a3.2.1.2.2.2.2.1, rwt aaa 65 3 b4 a6 a7 a3.2.1.2.2.2.2.2, rwt aaa 65 3 b5 a8 a9 a3.2.2, rwt eS 9 1 c2 c0 c1 b7] e8 := Hp.callK (L1 := [blk b0 (Zz8 c3 c4) 99]) (L2 := [blk b1 (Zz5 a3.1 a3.2.1.1 a3.2.1.2.1 a3.2.1.2.2.1 a3.2.1.2.2.2.1 a4 a3.2.1.2.2.2.2.1.length a5 a6 a3.2.1.2.2.2.2.2.length a7 a8 a3.2.2.length a9) 38, rwt aaa 65 3 b3 a4 a5 a3.2.1.2.2.2.2.1, rwt aaa 65 3 b4 a6 a7 a3.2.1.2.2.2.2.2, rwt aaa 65 3 b5 a8 a9 a3.2.2, rwt eS 9 1 c2 c0 c1 b7]) d4 e0; clear e0
 refine wp 1 (nq (cb b8 (fun e9 b8 => ?_) (fun e9 b8 => ?_)))
 refine ck (qn (ce (sr (wp 1 (bi b8 fun b6 f0 b8 => aat 156 #[] (Zz45 b0) _ ent156 krf krf (akb b0 f0 (hG.hp d2 hS) (d2.hand (L1 := [blk b0 (Zz8 c3 c4) 99]) (L2 := [blk b1 (Zz5 a3.1 a3.2.1.1 a3.2.1.2.1 a3.2.1.2.2.1 a3.2.1.2.2.2.1 a4 a3.2.1.2.2.2.2.1.length a5 a6 a3.2.1.2.2.2.2.2.length a7 a8 a3.2.2.length a9) 38, rwt aaa 65 3 b3 a4 a5 a3.2.1.2.2.2.2.1, rwt aaa 65 3 b4 a6 a7 a3.2.1.2.2.2.2.2, rwt aaa 65 3 b5 a8 a9 a3.2.2, rwt eS 9 1 c2 c0 c1 b7])) (d2.highs hG hS 1 rfl)) ?_)))))
 rintro _ f1 ⟨rfl, e1⟩
 have f2 : Hp w (abh [blk b0 (Zz8 b2.1 b2.2) 99, blk b1 (Zz5 a3.1 a3.2.1.1 a3.2.1.2.1 a3.2.1.2.2.1 a3.2.1.2.2.2.1 a4 a3.2.1.2.2.2.2.1.length a5 a6 a3.2.1.2.2.2.2.2.length a7 a8 a3.2.2.length a9) 38, rwt aaa 65 3 b3 a4 a5 a3.2.1.2.2.2.2.1, rwt aaa 65 3 b4 a6 a7 a3.2.1.2.2.2.2.2, rwt aaa 65 3 b5 a8 a9 a3.2.2]) [blk b0 (Zz8 b6.2.1 b6.2.2) 99, blk b1 (Zz5 a3.1 a3.2.1.1 a3.2.1.2.1 a3.2.1.2.2.1 a3.2.1.2.2.2.1 a4 a3.2.1.2.2.2.2.1.length a5 a6 a3.2.1.2.2.2.2.2.length a7 a8 a3.2.2.length a9) 38, rwt aaa 65 3 b3 a4 a5 a3.2.1.2.2.2.2.1, rwt aaa 65 3 b4 a6 a7 a3.2.1.2.2.2.2.2, rwt aaa 65 3 b5 a8 a9 a3.2.2, rwt eS 9 1 c2 c0 c1 b7] f1 := Hp.callK (L1 := [blk b0 (Zz8 c3 c4) 99]) (L2 := [blk b1 (Zz5 a3.1 a3.2.1.1 a3.2.1.2.1 a3.2.1.2.2.1 a3.2.1.2.2.2.1 a4 a3.2.1.2.2.2.2.1.length a5 a6 a3.2.1.2.2.2.2.2.length a7 a8 a3.2.2.length a9) 38, rwt aaa 65 3 b3 a4 a5 a3.2.1.2.2.2.2.1, rwt aaa 65 3 b4 a6 a7 a3.2.1.2.2.2.2.2, rwt aaa 65 3 b5 a8 a9 a3.2.2, rwt eS 9 1 c2 c0 c1 b7]) d2 e1; clear e1
 refine wp 1 (nq (cs (sr (wp 2 (nq (cd b8 (fun f3 b8 => ?_) (fun f3 b8 => ?_)))))))
 exact nzz b8
 refine ck (qn (sr (wp 2 (adr f2 [(str b6.1)] 9 (fun b => (Vs (some ⟨b, 0, none⟩) 1 1)) rfl rfl krf fun c7 g4 e2 => gi b8 fun f4 b8 => adm e2 6 c2 c0 (some ⟨c7, 0, none⟩) c1 1 9 1 16 b7 ([b6.1] : List Str) apr rfl underlying70 (by unfold TI; kernel_rfl) (by decide) (by decide) krf (Eq.trans (b := (Vs (some ⟨c7, 0, none⟩) 1 1)) krf (aaj (by first | rfl | (simp; done) | omega | (simp; omega) | (rw [zah]; omega)))) (e2.rdblk 0 rfl) f4 fun c9 d0 d1 e3 d7 => ?_))))
 replace d7 : Hp w (abh [blk b0 (Zz8 b2.1 b2.2) 99, blk b1 (Zz5 a3.1 a3.2.1.1 a3.2.1.2.1 a3.2.1.2.2.1 a3.2.1.2.2.2.1 a4 a3.2.1.2.2.2.2.1.length a5 a6 a3.2.1.2.2.2.2.2.length a7 a8 a3.2.2.length a9) 38, rwt aaa 65 3 b3 a4 a5 a3.2.1.2.2.2.2.1, rwt aaa 65 3 b4 a6 a7 a3.2.1.2.2.2.2.2, rwt aaa 65 3 b5 a8 a9 a3.2.2]) [blk c7 [(str b6.1)] 9, blk b0 (Zz8 b6.2.1 b6.2.2) 99, blk b1 (Zz5 a3.1 a3.2.1.1 a3.2.1.2.1 a3.2.1.2.2.1 a3.2.1.2.2.2.1 a4 a3.2.1.2.2.2.2.1.length a5 a6 a3.2.1.2.2.2.2.2.length a7 a8 a3.2.2.length a9) 38, rwt aaa 65 3 b3 a4 a5 a3.2.1.2.2.2.2.1, rwt aaa 65 3 b4 a6 a7 a3.2.1.2.2.2.2.2, rwt aaa 65 3 b5 a8 a9 a3.2.2, rwt eS 9 1 c9 d0 d1 (b7 ++ ([b6.1] : List Str))] e3 := d7
 refine wp 1 (nq (cr (wp 1 (bi b8 fun d5 f5 b8 => ?_))))
 have d6 : Hp w (abh [blk b0 (Zz8 b2.1 b2.2) 99, blk b1 (Zz5 a3.1 a3.2.1.1 a3.2.1.2.1 a3.2.1.2.2.1 a3.2.1.2.2.2.1 a4 a3.2.1.2.2.2.2.1.length a5 a6 a3.2.1.2.2.2.2.2.length a7 a8 a3.2.2.length a9) 38, rwt aaa 65 3 b3 a4 a5 a3.2.1.2.2.2.2.1, rwt aaa 65 3 b4 a6 a7 a3.2.1.2.2.2.2.2, rwt aaa 65 3 b5 a8 a9 a3.2.2]) [blk b0 (Zz8 b6.2.1 b6.2.2) 99, blk c7 [(str b6.1)] 9, blk b1 (Zz5 a3.1 a3.2.1.1 a3.2.1.2.1 a3.2.1.2.2.1 a3.2.1.2.2.2.1 a4 a3.2.1.2.2.2.2.1.length a5 a6 a3.2.1.2.2.2.2.2.length a7 a8 a3.2.2.length a9) 38, rwt aaa 65 3 b3 a4 a5 a3.2.1.2.2.2.2.1, rwt aaa 65 3 b4 a6 a7 a3.2.1.2.2.2.2.2, rwt aaa 65 3 b5 a8 a9 a3.2.2, rwt eS 9 1 c9 d0 d1 (b7 ++ ([b6.1] : List Str))] e3 := d7.front 1 _ rfl
 refine aat 88 #[] (Zz45 b0) _ ent88 krf krf (aet b0 f5 (hG.hp d6 hS) (d6.hand (L1 := (Zz40 b0 b6.2.1 b6.2.2)) (L2 := [blk c7 [(str b6.1)] 9, blk b1 (Zz5 a3.1 a3.2.1.1 a3.2.1.2.1 a3.2.1.2.2.1 a3.2.1.2.2.2.1 a4 a3.2.1.2.2.2.2.1.length a5 a6 a3.2.1.2.2.2.2.2.length a7 a8 a3.2.2.length a9) 38, rwt aaa 65 3 b3 a4 a5 a3.2.1.2.2.2.2.1, rwt aaa 65 3 b4 a6 a7 a3.2.1.2.2.2.2.2, rwt aaa 65 3 b5 a8 a9 a3.2.2, rwt eS 9 1 c9 d0 d1 (b7 ++ ([b6.1] : List Str))])) (d6.highs hG hS 1 rfl)) ?_
 rintro _ f6 ⟨rfl, e4⟩
 have f7 : Hp w (abh [blk b0 (Zz8 b2.1 b2.2) 99, blk b1 (Zz5 a3.1 a3.2.1.1 a3.2.1.2.1 a3.2.1.2.2.1 a3.2.1.2.2.2.1 a4 a3.2.1.2.2.2.2.1.length a5 a6 a3.2.1.2.2.2.2.2.length a7 a8 a3.2.2.length a9) 38, rwt aaa 65 3 b3 a4 a5 a3.2.1.2.2.2.2.1, rwt aaa 65 3 b4 a6 a7 a3.2.1.2.2.2.2.2, rwt aaa 65 3 b5 a8 a9 a3.2.2]) [blk b0 (Zz8 d5.1 d5.2) 99, blk c7 [(str b6.1)] 9, blk b1 (Zz5 a3.1 a3.2.1.1 a3.2.1.2.1 a3.2.1.2.2.1 a3.2.1.2.2.2.1 a4 a3.2.1.2.2.2.2.1.length a5 a6 a3.2.1.2.2.2.2.2.length a7 a8 a3.2.2.length a9) 38, rwt aaa 65 3 b3 a4 a5 a3.2.1.2.2.2.2.1, rwt aaa 65 3 b4 a6 a7 a3.2.1.2.2.2.2.2, rwt aaa 65 3 b5 a8 a9 a3.2.2, rwt eS 9 1 c9 d0 d1 (b7 ++ ([b6.1] : List Str))] f6 := Hp.callK (L1 := (Zz40 b0 b6.2.1 b6.2.2)) (L2 := [blk c7 [(str b6.1)] 9, blk b1 (Zz5 a3.1 a3.2.1.1 a3.2.1.2.1 a3.2.1.2.2.1 a3.2.1.2.2.2.1 a4 a3.2.1.2.2.2.2.1.length a5 a6 a3.2.1.2.2.2.2.2.length a7 a8 a3.2.2.length a9) 38, rwt aaa 65 3 b3 a4 a5 a3.2.1.2.2.2.2.1, rwt aaa 65 3 b4 a6 a7 a3.2.1.2.2.2.2.2, rwt aaa 65 3 b5 a8 a9 a3.2.2, rwt eS 9 1 c9 d0 d1 (b7 ++ ([b6.1] : List Str))]) d6 e4; clear e4
 refine wl (bn (ql ?_))
 exact ⟨(c8, b7 ++ ([b6.1] : List Str), d5.1, d5.2, c9, d0, d1), _, rfl, by kernel_rfl, ⟨(Hp.front (Hp.front (Hp.front (Hp.front (Hp.front (Hp.front f7 6 _ rfl) 6 _ rfl) 6 _ rfl) 6 _ rfl) 6 _ rfl) 5 _ rfl).kp, b8⟩, zad _⟩
 refine abq (abp (aby (abr (ql ?_))))
 obtain rfl := oi b8
 exact ⟨((b7, c3, c4), c2, c0, c1), _, rfl, by kernel_rfl, (Hp.front (Hp.front (Hp.front (Hp.front (Hp.front (Hp.front d2 5 _ rfl) 5 _ rfl) 5 _ rfl) 5 _ rfl) 5 _ rfl) 5 _ rfl).kp, rfl⟩
 rintro ⟨b9, d3, c5, c6⟩ f8 G ⟨d8, rfl⟩
 refine sr (wp 2 (gi hr fun f9 hr => aat 59 #[] [(Vs c5 b9.1.length c6), (str ([32] : Str))] _ ent59 krf krf (sh_Join ([32] : Str) f8 c5 b9.1.length c6 b9.1 rfl (d8.rdrw 5 rfl) (d8.rwcap 5 rfl) f9) ?_))
 rintro _ g5 ⟨rfl, e5⟩
 have g0 := d8.call e5; clear e5
 refine wp 2 (aib g0 1 b1 0 (Zz5 a3.1 a3.2.1.1 a3.2.1.2.1 a3.2.1.2.2.1 a3.2.1.2.2.2.1 a4 a3.2.1.2.2.2.2.1.length a5 a6 a3.2.1.2.2.2.2.2.length a7 a8 a3.2.2.length a9) 38 (str (zaB b9.1 ([32] : Str))) [blk b0 (Zz8 b9.2.1 b9.2.2) 99, blk b1 [(str (zaB b9.1 ([32] : Str))), (str a3.2.1.1), (str a3.2.1.2.1), (str a3.2.1.2.2.1), (Vi .i64 a3.2.1.2.2.2.1), (Vs a4 a3.2.1.2.2.2.2.1.length a5), (Vs a6 a3.2.1.2.2.2.2.2.length a7), (Vs a8 a3.2.2.length a9)] 38, rwt aaa 65 3 b3 a4 a5 a3.2.1.2.2.2.2.1, rwt aaa 65 3 b4 a6 a7 a3.2.1.2.2.2.2.2, rwt aaa 65 3 b5 a8 a9 a3.2.2, rwt eS 9 1 d3 c5 c6 b9.1] rfl (zaj (zad _) nbe) krf krf rfl krf rfl fun g6 g1 => nq (sr (wp 2 (nq (ct ?_)))))
 obtain rfl := oi hr
 refine r_two (Vi .i64 (0 : Int)) (bt (0 : UInt8)) rfl krf krf ?_
 exact ⟨b3, a4, a5, b4, a6, a7, b5, a8, a9, (by first | rfl | (simp; done) | (simp; omega)), (Hp.front (Hp.front (Hp.front (Hp.front (Hp.front g1 4 _ rfl) 4 _ rfl) 4 _ rfl) 4 _ rfl) 4 _ rfl).kp⟩
theorem ais {fu : Nat} {a0 : Str} {a1 : Int} {a2 : Str} {w : World} {r : Int} (hr : aeu fu a0 a1 a2 = some r) (hG : Gl w) : CR prog 158 [(zan #[(str a0)]), (Vi .i64 a1), (str a2)] w fun v w' => v = (Vi .i64 r) ∧ Hp w [] [] w' := by
 have hH := Hp.refl w
 refine enter (k := 22) func158 rfl rfl nbe ?_
 unfold aeu at hr
 refine sr (adr hH [(str a0)] 97 (fun b => (Vp (some ⟨b, 0, none⟩))) rfl rfl krf fun b1 w2 a3 => wp 1 (nq (cs (sr (wp 1 ?_)))))
 refine abs a3 0 b1 0 [(str a0)] 97 (str a0) rfl rfl krf krf (wp 1 (gi hr fun g4 hr => ahd a0 .i64 a1 underlying9 krf krf g4 (wp 1 (gi hr fun g8 hr => aat 32 #[] [(str (zam (zac a1) a0)), (str a2)] _ ent32 krf krf (sh_IndexAnyW (zam (zac a1) a0) a2 w2 g8 (hG.hp0 a3)) ?_))))
 rintro _ w5 ⟨rfl, a5⟩
 have a4 := a3.call a5; clear a5
 refine wp 1 (nq (sr (wp 2 (nq (cd hr (fun h9 hr => ?_) (fun h9 hr => ?_))))))
 refine sr (wp 2 (gi hr fun a6 hr => aae a1 (zaC (zam (zac a1) a0) a2) krf krf a6 (wp 1 (nq (ct (st ?_))))))
 obtain rfl := oi hr
 exact rv a4.kp
 refine ck (qn (sr (wp 1 (abs a4 0 b1 0 [(str a0)] 97 (str a0) rfl rfl krf krf (wp 2 (nq (ct ?_)))))))
 obtain rfl := oi hr
 exact rv a4.kp
theorem adu {fu : Nat} {s_0 : Str} {w : World} {r : Str} (hr : adw fu s_0 = some r) (hG : Gl w) : CR prog 67 [(str s_0)] w fun v w' => v = (str r) ∧ Hp w [] [] w' := by
 have hH := Hp.refl w
 refine enter (k := 29) func67 rfl rfl nbe ?_
 unfold adw at hr
 refine sr (wp 1 (nq (sr (wp 1 (w_tobytes hH s_0 5 underlying9 underlying85 underlying5 krf fun a1 cap2 w3 b2 => wp 1 ?_)))))
 refine nq (bi hr fun b1 b3 hr => cut (σ := Str) [2, 3] (fun a6 => []) (fun a6 w' => Hp w [] [brow (Vs a1 s_0.length cap2) s_0.length a6] w' ∧ a6 = b1) ?_ ?_)
 refine sr (wp 3 (nq (ce (lpG (σ := Nat × Str × Int) [2, 3, 8, 9, 10] (fun ⟨a4, a3, a2⟩ => [(10, (Vi .i64 a2))]) (fun ⟨a4, a3, a2⟩ w' => Hp w [] [brow (Vs a1 s_0.length cap2) s_0.length a3] w' ∧ afh fu s_0 a4 a3 a2 = some b1) (fun ⟨a4, a3, a2⟩ => a4) (fu, s_0, (0 : Int)) (by exact ⟨b2.kp, b3⟩) ?_))))
 rintro ⟨_ | a4, a3, a2⟩ c6 G ⟨a5, a0⟩
 · exact nzz a0
 rw [afh.eq_2] at a0
 refine sr (wp 1 (nq (cs (cd a0 (fun b4 a0 => ?_) (fun b4 a0 => ?_)))))
 refine ck (qn (cs (ce (sr (wp 1 (gi a0 fun b5 a0 => ahl a1 s_0.length cap2 5 1 .i64 a2 underlying85 krf krf krf a3 (a5.browlen 0 rfl).symm b5 (Rd.ofbytes (a5.rdbrow 0 rfl)) akh (by decide) (gi a0 fun b6 a0 => ?_)))))))
 refine apo a1 eB a3 1 a2 akh (Rd.ofbytes (a5.rdbrow 0 rfl)) (bt (at_ a3 a2)) b6 (by decide) krf krf krf (wp 2 (nq (bi a0 fun b7 a7 a0 => age a5 [2, 3, 4, 5, 8, 9, 10, 20] [(20, (Vb b7))] ?_ ?_)))
 refine cr (wp 1 (ajo (at_ a3 a2) (65 : UInt8) krf krf (wd a7 (fun b8 a7 => ?_) (fun b8 a7 => ?_))))
 refine wp 1 (gy 17 (ajn (at_ a3 a2) (90 : UInt8) krf krf (wp 1 (wl (ql ?_)))))
 obtain rfl := oi a7
 exact je a5.kp
 refine wp 3 (wl (ql ?_))
 obtain rfl := oi a7
 exact je a5.kp
 intro c7 G a8
 refine cb a0 (fun b9 a0 => ?_) (fun b9 a0 => ?_)
 refine cr (wp 3 (w8_add (at_ a3 a2) (32 : UInt8) krf krf (gi a0 fun c0 a0 => ahl a1 s_0.length cap2 5 1 .i64 a2 underlying85 krf krf krf a3 (a8.browlen 0 rfl).symm c0 (Rd.ofbytes (a8.rdbrow 0 rfl)) akh (by decide) (gi a0 fun c1 a0 => w_stB a8 0 a1 s_0.length cap2 a2 a3 ((at_ a3 a2) + (32 : UInt8)) rfl c1 krf krf krf fun c2 a9 => ?_))))
 replace a9 : Hp w [] [brow (Vs a1 s_0.length cap2) s_0.length (zal a3 (zac a2) ((at_ a3 a2) + (32 : UInt8)))] c2 := a9
 refine wl (bn (qn (cr (gi a0 fun c3 a0 => aae a2 (1 : Int) krf krf c3 (wp 1 (wl (ql ?_)))))))
 exact ⟨(a4, zal a3 (zac a2) ((at_ a3 a2) + (32 : UInt8)), a2 + (1 : Int)), _, rfl, by kernel_rfl, ⟨a9.kp, a0⟩, zad _⟩
 refine ck (bn (qn (cr (gi a0 fun c4 a0 => aae a2 (1 : Int) krf krf c4 (wp 1 (wl (ql ?_)))))))
 exact ⟨(a4, a3, a2 + (1 : Int)), _, rfl, by kernel_rfl, ⟨a8.kp, a0⟩, zad _⟩
 refine abq (abp (aby (abr (ql ?_))))
 obtain rfl := oi a0
 exact ⟨a3, _, rfl, by kernel_rfl, a5.kp, rfl⟩
 rintro a6 c5 G ⟨b0, rfl⟩
 refine sr (wp 1 (aes (v := (str a6)) (w' := c5) rfl rfl (apn a6 a1 s_0.length cap2 5 (Rd.bytes (Rd.ofbytes (b0.rdbrow 0 rfl))) (b0.browlen 0 rfl) underlying85 underlying9 underlying5 krf) (wp 1 (nq (ct ?_)))))
 obtain rfl := oi hr
 exact rv b0.kp
open Go.Lib renaming trimLeftS → zaD
open Go.Value renaming tuple → zak
open List renaming length_take → zah, set → zal
theorem ent67 : Wk.Enters prog 67 := ⟨f67, _, func67, rfl, krf⟩
theorem ent152 : Wk.Enters prog 152 := ⟨f152, _, func152, rfl, krf⟩
theorem ent153 : Wk.Enters prog 153 := ⟨f153, _, func153, rfl, krf⟩
theorem ent155 : Wk.Enters prog 155 := ⟨f155, _, func155, rfl, krf⟩
theorem ent178 : Wk.Enters prog 178 := ⟨f178, _, func178, rfl, krf⟩
theorem ent190 : Wk.Enters prog 190 := ⟨f190, _, func190, rfl, krf⟩
theorem ent191 : Wk.Enters prog 191 := ⟨f191, _, func191, rfl, krf⟩
theorem ent249 : Wk.Enters prog 249 := ⟨f249, _, func249, rfl, krf⟩
theorem aqk {fu : Nat} {a1 : UInt8} {w : World} {r : Bool} (hr : aix fu a1 = some r) (hG : Gl w) : CR prog 155 [(bt a1)] w fun v w' => v = (Vb r) ∧ Hp w [] [] w' := by
 have hH := Hp.refl w
 refine enter (k := 17) func155 rfl rfl nbe ?_
 unfold aix at hr
 refine sr (wp 1 (nq (bi hr fun v8 a0 hr => age hH [2] [(2, (Vb v8))] ?_ ?_)))
 refine cr (wp 1 (ajo a1 (97 : UInt8) krf krf (wd a0 (fun h9 a0 => ?_) (fun h9 a0 => ?_))))
 refine wp 1 (gy 5 (ajn a1 (122 : UInt8) krf krf (wp 1 (wd a0 (fun a2 a0 => ?_) (fun a2 a0 => ?_)))))
 refine wp 8 (wl (ql ?_))
 obtain rfl := oi a0
 exact je hH.kp
 refine wp 1 (gy 9 (ajo a1 (65 : UInt8) krf krf (gy 9 (wd a0 (fun a3 a0 => ?_) (fun a3 a0 => ?_)))))
 refine wp 1 (gy 12 (ajn a1 (90 : UInt8) krf krf (wp 3 (wl (ql ?_)))))
 obtain rfl := oi a0
 exact je hH.kp
 refine wp 5 (wl (ql ?_))
 obtain rfl := oi a0
 exact je hH.kp
 refine wp 5 (gy 9 (ajo a1 (65 : UInt8) krf krf (gy 9 (wd a0 (fun a4 a0 => ?_) (fun a4 a0 => ?_)))))
 refine wp 1 (gy 12 (ajn a1 (90 : UInt8) krf krf (wp 3 (wl (ql ?_)))))
 obtain rfl := oi a0
 exact je hH.kp
 refine wp 5 (wl (ql ?_))
 obtain rfl := oi a0
 exact je hH.kp
 intro a6 G a5
 refine ct ?_
 obtain rfl := oi hr
 exact rv a5.kp
theorem aqb {fu : Nat} {a1 : UInt8} {a2 : Int} {w : World} {r : Bool} (hr : ama fu a1 a2 = some r) (hG : Gl w) : CR prog 178 [(bt a1), (Vi .i64 a2)] w fun v w' => v = (Vb r) ∧ Hp w [] [] w' := by
 have hH := Hp.refl w
 refine enter (k := 30) func178 rfl rfl nbe ?_
 unfold ama at hr
 refine sr (wp 1 (nq (cs (bi hr fun v9 a0 hr => age hH [0, 1, 4, 15] [(15, (Vb true))] ?_ ?_))))
 refine cr (wp 1 (bi a0 fun a7 a3 a0 => wc ent155 hH (aqk a3 (hG.hp0 hH)) fun a8 a4 => wb a0 (fun a5 a0 => ?_) (fun a5 a0 => ?_)))
 refine wp 8 (wl (ql ?_))
 obtain rfl := oi a0
 exact je a4.kp
 exact nzz a0
 intro a9 G a6
 refine c_true krf (sr (wp 1 (nq (ct (st ?_)))))
 obtain rfl := oi hr
 exact rv a6.kp
theorem ana {fu : Nat} {a0 : (Str × Int)} {a5 : Int} {a6 : Int} (a2 : Nat) {w : World} {r : (Int × Bool)} (hr : aiq fu a0 a5 a6 = some r) (hG : Gl w) (hM : Hp w (abh [blk a2 [(str a0.1), (Vi .i64 a0.2)] 99]) [blk a2 [(str a0.1), (Vi .i64 a0.2)] 99] w) (hS : ∀ b ∈ abh [blk a2 [(str a0.1), (Vi .i64 a0.2)] 99], 9 ≤ b) : CR prog 234 [(Vp (some ⟨a2, 0, none⟩)), (Vi .i64 a5), (Vi .i64 a6)] w fun v w' => v = (zak #[(Vi .i64 r.1), (Vb r.2)]) ∧ Hp w (abh [blk a2 [(str a0.1), (Vi .i64 a0.2)] 99]) [blk a2 [(str a0.1), (Vi .i64 a0.2)] 99] w' := by
 have hH : Hp w (abh (Zz40 a2 a0.1 a0.2)) (Zz40 a2 a0.1 a0.2) w := hM
 refine enter (k := 50) func234 rfl rfl nbe ?_
 unfold aiq at hr
 refine sr (wp 2 (nq (bi hr fun b6 a8 hr => age hH [6, 7] [] ?_ ?_)))
 refine sr (wp 3 (abs hH 0 a2 1 (Zz8 a0.1 a0.2) 99 (Vi .i64 a0.2) rfl rfl krf krf (wp 1 (nq (ce (lpS (fun a7 a3 => ahi fu a0 a5 a6 a7 a3) a0.2 hH a8 [0, 1, 2, 6, 7, 8] (fun a3 => [(8, (Vi .i64 a3))]) (fun _ => rfl) ?_))))))
 rintro a7 a3 b7 G a4 a1
 rw [ahi.eq_2] at a1
 refine cs (sr (wp 3 (nq (cd a1 (fun a9 a1 => ?_) (fun a9 a1 => ?_)))))
 refine ck (qn (cs (ce (cs (sr (wp 4 (abs a4 0 a2 0 (Zz8 a0.1 a0.2) 99 (str a0.1) rfl rfl krf krf (wp 1 ?_))))))))
 refine gi a1 fun b0 a1 => abi a0.1 .i64 a3 underlying9 krf krf b0 (wp 1 (bi a1 fun b8 b1 a1 => wc ent178 a4 (aqb b1 (hG.hp a4 hS)) fun b9 b2 => nq (cb a1 (fun b3 a1 => ?_) (fun b3 a1 => ?_))))
 refine abq (abp (abr (qn (cr (wp 1 (gi a1 fun b4 a1 => aae a3 (1 : Int) krf krf b4 (wp 1 (wl ?_))))))))
 exact ql (le' (a3 + (1 : Int)) b2.kp a1)
 exact nzz a1
 refine abq (abp (aby (abr (ql ?_))))
 obtain rfl := oi a1
 exact je a4.kp
 intro c0 G b5
 refine sr (wp 2 (nq (ct ?_)))
 obtain rfl := oi hr
 refine r_two (Vi .i64 (0 : Int)) (Vb false) rfl krf krf ?_
 exact ⟨(by first | rfl | (simp; done) | (simp; omega)), b5.kp⟩
theorem K_L_address_Unescape {fu : Nat} {s_0 : Str} {w : World} {r : (Str × Int × UInt8)} (hr : anm fu s_0 = some r) (hG : Gl w) : CR prog 249 [(str s_0)] w fun v w' => v = (zak #[(str r.1), (Vi .i64 r.2.1), (bt r.2.2)]) ∧ Hp w [] [] w' := by
 have hH := Hp.refl w
 refine enter (k := 45) func249 rfl rfl nbe ?_
 unfold anm at hr
 refine sr (wp 3 (nq (sr (wp 2 (gi hr fun g1 hr => w_makeT (f := eB) hH 5 1 1 .i64 .i64 (s_0.length : Int) underlying85 (by unfold TI; kernel_rfl) (by decide) krf krf g1 fun o2 a3 cap4 w5 c1 => ?_)))))
 refine wp 1 (nq (bi hr fun b4 c2 hr => cut (σ := (List UInt8) × (Option Nat) × (Option Addr) × Nat) [2, 3, 4, 5] (fun ⟨a4, b1, a9, b0⟩ => [(5, (Vs a9 a4.length b0))]) (fun ⟨a4, b1, a9, b0⟩ w' => Hp w [] [rwt eB 5 1 b1 a9 b0 a4] w' ∧ a4 = b4) ?_ ?_))
 refine sr (wp 1 (nq (ce (lpG (σ := Nat × (List UInt8) × Int × (Option Nat) × (Option Addr) × Nat) [0, 2, 3, 4, 5, 6] (fun ⟨a7, a2, a1, a8, a5, a6⟩ => [(5, (Vs a5 a2.length a6)), (6, (Vi .i64 a1))]) (fun ⟨a7, a2, a1, a8, a5, a6⟩ w' => Hp w [] [rwt eB 5 1 a8 a5 a6 a2] w' ∧ air fu s_0 a7 a2 a1 = some b4) (fun ⟨a7, a2, a1, a8, a5, a6⟩ => a7) (fu, ([] : List UInt8), (0 : Int), o2, a3, cap4) (by exact ⟨c1.kp, c2⟩) ?_ (mc krf (mc krf (mc krf (mc krf (mc (Eq.trans (b := (Vs a3 0 cap4)) krf (aaj lsy)) (mc krf rfl))))))))))
 rintro ⟨_ | a7, a2, a1, a8, a5, a6⟩ d1 G ⟨b5, a0⟩
 · exact nzz a0
 rw [air.eq_2] at a0
 refine cs (sr (wp 4 (nq (cd a0 (fun c3 a0 => ?_) (fun c3 a0 => ?_)))))
 refine ck (qn (cs (ce (cs (sr (wp 2 (gi a0 fun c4 a0 => abi s_0 .i64 a1 underlying9 krf krf c4 ?_)))))))
 refine afp (at_ s_0 a1) (37 : UInt8) krf krf (nq (cn a0 (fun c5 a0 => ?_) (fun c5 a0 => ?_)))
 refine sr (wp 3 (gi a0 fun c6 a0 => abi s_0 .i64 a1 underlying9 krf krf c6 (adr b5 [(bt (at_ s_0 a1))] 5 (fun b => (Vs (some ⟨b, 0, none⟩) 1 1)) rfl rfl krf fun b2 d2 b6 => gi a0 fun c7 a0 => adm b6 1 a8 a5 (some ⟨b2, 0, none⟩) a6 1 5 1 1 a2 ([at_ s_0 a1] : List UInt8) akh rfl underlying85 (by unfold TI; kernel_rfl) (by decide) (by decide) krf (Eq.trans (b := (Vs (some ⟨b2, 0, none⟩) 1 1)) krf (aaj (by first | rfl | (simp; done) | omega | (simp; omega) | (rw [zah]; omega)))) (b6.rdblk 0 rfl) c7 fun b7 b8 b9 c8 b3 => ?_)))
 replace b3 : Hp w [] [blk b2 [(bt (at_ s_0 a1))] 5, rwt eB 5 1 b7 b8 b9 (a2 ++ ([at_ s_0 a1] : List UInt8))] c8 := b3
 refine wp 1 (nq (abq (abp (abr (qn (cr (wp 1 (gi a0 fun c9 a0 => ?_))))))))
 refine aae a1 (1 : Int) krf krf c9 (wp 1 (wl (ql ?_)))
 exact ⟨(a7, a2 ++ ([at_ s_0 a1] : List UInt8), a1 + (1 : Int), b7, b8, b9), _, rfl, by kernel_rfl, ⟨(Hp.front b3 1 _ rfl).kp, a0⟩, zad _⟩
 exact nzz a0
 refine abq (abp (aby (abr (ql ?_))))
 obtain rfl := oi a0
 exact ⟨(a2, a8, a5, a6), _, rfl, by kernel_rfl, b5.kp, rfl⟩
 rintro ⟨a4, b1, a9, b0⟩ d0 G ⟨c0, rfl⟩
 refine sr (wp 1 (aes (v := (str a4)) (w' := d0) rfl rfl (apn a4 a9 a4.length b0 5 (Rd.bytes (c0.rdrw 0 rfl)) (by first | rfl | (simp; done) | omega | (simp; omega) | (rw [zah]; omega)) underlying85 underlying9 underlying5 krf) (wp 3 (nq (ct ?_)))))
 obtain rfl := oi hr
 exact rv c0.kp
theorem aqc {fu : Nat} {s_0 : Str} {w : World} {r : Str} (hr : amb fu s_0 = some r) (hG : Gl w) : CR prog 235 [(str s_0)] w fun v w' => v = (str r) ∧ Hp w [] [] w' := by
 have hH := Hp.refl w
 refine enter (k := 13) func235 rfl rfl nbe ?_
 unfold amb at hr
 refine sr (wp 1 (nq (sr (wp 1 (bi hr fun y1 a0 hr => wc ent249 hH (K_L_address_Unescape a0 (hG.hp0 hH)) fun w3 a1 => ?_)))))
 refine wp 7 (nq (sr (wp 2 (nq (ct ?_)))))
 obtain rfl := oi hr
 exact rv a1.kp
theorem ame {fu : Nat} {a1 : UInt8} {w : World} {r : Bool} (hr : agy fu a1 = some r) (hG : Gl w) : CR prog 153 [(bt a1)] w fun v w' => v = (Vb r) ∧ Hp w [] [] w' := by
 have hH := Hp.refl w
 refine enter (k := 9) func153 rfl rfl nbe ?_
 unfold agy at hr
 refine sr (wp 1 (nq (bi hr fun v5 a0 hr => age hH [2] [(2, (Vb v5))] ?_ ?_)))
 refine cr (wp 1 (ajo a1 (48 : UInt8) krf krf (wd a0 (fun h6 a0 => ?_) (fun h6 a0 => ?_))))
 refine wp 1 (gy 5 (ajn a1 (57 : UInt8) krf krf (wp 2 (wl (ql ?_)))))
 obtain rfl := oi a0
 exact je hH.kp
 refine wp 4 (wl (ql ?_))
 obtain rfl := oi a0
 exact je hH.kp
 intro w7 G a2
 refine ct ?_
 obtain rfl := oi hr
 exact rv a2.kp
theorem K_L_address_hexDigit {fu : Nat} {a0 : UInt8} {w : World} {r : (UInt8 × Bool)} (hr : ajf fu a0 = some r) (hG : Gl w) : CR prog 190 [(bt a0)] w fun v w' => v = (zak #[(bt r.1), (Vb r.2)]) ∧ Hp w [] [] w' := by
 have hH := Hp.refl w
 refine enter (k := 29) func190 rfl rfl nbe ?_
 unfold ajf at hr
 refine sr (wp 2 (nq (cs (ce (sr (wp 1 ?_))))))
 refine bi hr fun y1 a6 hr => wc ent153 hH (ame a6 (hG.hp0 hH)) fun w3 a3 => wp 1 (nq (cb hr (fun h6 hr => ?_) (fun h6 hr => ?_)))
 refine sr (wp 1 (w8_sub a0 (48 : UInt8) krf krf (wp 2 (nq (ct (bt_ (st ?_)))))))
 obtain rfl := oi hr
 exact rv a3.kp
 refine bi hr fun a7 a1 hr => age a3 [0, 2, 3, 9] [(9, (Vb a7))] ?_ ?_
 refine cr (wp 1 (ajo a0 (97 : UInt8) krf krf (wd a1 (fun a8 a1 => ?_) (fun a8 a1 => ?_))))
 refine wp 1 (gy 12 (ajn a0 (102 : UInt8) krf krf (wp 2 (wl (ql ?_)))))
 obtain rfl := oi a1
 exact je a3.kp
 refine wp 4 (wl (ql ?_))
 obtain rfl := oi a1
 exact je a3.kp
 intro b3 G a4
 refine cb hr (fun a9 hr => ?_) (fun a9 hr => ?_)
 refine sr (wp 1 (w8_sub a0 (97 : UInt8) krf krf (w8_add (a0 - (97 : UInt8)) (10 : UInt8) krf krf (wp 2 (nq (ct (bt_ ?_)))))))
 refine st ?_
 obtain rfl := oi hr
 exact rv a4.kp
 refine bi hr fun b0 a2 hr => age a4 [0, 2, 3, 19] [(19, (Vb b0))] ?_ ?_
 refine cr (wp 1 (ajo a0 (65 : UInt8) krf krf (wd a2 (fun b1 a2 => ?_) (fun b1 a2 => ?_))))
 refine wp 1 (gy 22 (ajn a0 (70 : UInt8) krf krf (wp 2 (wl (ql ?_)))))
 obtain rfl := oi a2
 exact je a4.kp
 refine wp 4 (wl (ql ?_))
 obtain rfl := oi a2
 exact je a4.kp
 intro b4 G a5
 refine cb hr (fun b2 hr => ?_) (fun b2 hr => ?_)
 refine sr (wp 1 (w8_sub a0 (65 : UInt8) krf krf (w8_add (a0 - (65 : UInt8)) (10 : UInt8) krf krf (wp 2 (nq (ct (bt_ ?_)))))))
 refine st ?_
 obtain rfl := oi hr
 exact rv a5.kp
 refine ck (bn (qn (sr (wp 2 (nq (ct ?_))))))
 obtain rfl := oi hr
 exact rv a5.kp
theorem alv {fu : Nat} {s_0 : Str} {w : World} {r : ((List Str) × Bool)} (hr : afi fu s_0 = some r) (hG : Gl w) : CR prog 151 [(str s_0)] w fun v w' => ∃ (o0 : Option Nat), ∃ (a0 : Option Addr), ∃ (cap0 : Nat), v = (zak #[(Vs a0 r.1.length cap0), (Vb r.2)]) ∧ Hp w [] [rwt eS 9 1 o0 a0 cap0 r.1] w' := by
 have hH := Hp.refl w
 refine enter (k := 53) func151 rfl rfl nbe ?_
 unfold afi at hr
 refine sr (wp 2 (nq (sr (wp 1 (gi hr fun g4 hr => aat 152 #[] [(str s_0), (str ([58] : Str))] _ ent152 krf krf (sh_Split s_0 58 w g4 (hG.hp0 hH)) ?_)))))
 rintro _ w1 ⟨o5, a6, cap7, rfl, b9⟩
 have c5 : Hp w [] [rwt eS 9 1 o5 a6 cap7 (spl 58 s_0)] w1 := Hp.callK (L1 := []) (L2 := []) hH b9; clear b9
 refine wp 1 (nq (bi hr fun c0 c6 hr => cut (σ := (List Str)) [2, 3, 4] (fun a8 => [(4, (Vs a6 a8.length cap7))]) (fun a8 w' => Hp w [] [rwt eS 9 1 o5 a6 cap7 a8] w' ∧ a8.length = (spl 58 s_0).length ∧ .inl a8 = c0) ?_ ?_))
 refine sr (wp 3 (nq (ce (lpG (σ := Nat × (List Str) × Int) [2, 3, 4, 12, 13, 14] (fun ⟨b0, a2, a3⟩ => [(4, (Vs a6 a2.length cap7)), (12, (Vs a6 a2.length cap7)), (14, (Vi .i64 a3))]) (fun ⟨b0, a2, a3⟩ w' => Hp w [] [rwt eS 9 1 o5 a6 cap7 a2] w' ∧ a2.length = (spl 58 s_0).length ∧ adj fu s_0 b0 a2 a3 = some c0) (fun ⟨b0, a2, a3⟩ => b0) (fu, spl 58 s_0, (0 : Int)) (by exact ⟨c5.kp, lsz, c6⟩) ?_))))
 rintro ⟨_ | b0, a2, a3⟩ f7 G ⟨b1, f8, a5⟩
 · exact nzz a5
 rw [adj.eq_2] at a5
 refine sr (wp 1 (nq (cs (cd a5 (fun c7 a5 => ?_) (fun c7 a5 => ?_)))))
 refine ck (qn (bi a5 fun c8 a1 a5 => cut (σ := (List Str)) [2, 3, 4, 12, 13, 14] (fun a7 => [(4, (Vs a6 a7.length cap7)), (12, (Vs a6 a7.length cap7))]) (fun a7 w' => Hp w [] [rwt eS 9 1 o5 a6 cap7 a7] w' ∧ a7.length = a2.length ∧ .inl a7 = c8) ?_ ?_))
 refine ce (sr (wp 1 (gi a1 fun c9 a1 => ahl a6 a2.length cap7 9 1 .i64 a3 underlying70 krf krf krf a2 rfl c9 (b1.rdrw 0 rfl) apr (by decide) (gi a1 fun d0 a1 => apo a6 eS a2 1 a3 apr (b1.rdrw 0 rfl) (str (el a2 a3)) d0 (by decide) krf krf krf (wp 2 (wl ?_))))))
 refine qn (cs (bi a1 fun d1 b3 a1 => age b1 [2, 3, 4, 5, 6, 12, 13, 14, 26] [(26, (Vb d1))] ?_ ?_))
 refine cr (wp 3 (wd b3 (fun d2 b3 => ?_) (fun d2 b3 => ?_)))
 refine wp 4 (wl (ql ?_))
 obtain rfl := oi b3
 exact je b1.kp
 refine wp 4 (wl (ql ?_))
 obtain rfl := oi b3
 exact je b1.kp
 intro f9 G b5
 refine cb a1 (fun d3 a1 => ?_) (fun d3 a1 => ?_)
 refine sr (wp 2 (nq (ct (st (bt_ (adg ?_))))))
 obtain rfl := oi a1
 refine adg (bt_ (adg ?_))
 obtain rfl := oi a5
 obtain rfl := oi hr
 refine r_two (Vs none 0 0) (Vb false) rfl krf krf ?_
 exact ⟨none, none, 0, (by first | rfl | (simp; done) | (simp; omega)), (Hp.nilrw b5 eS 9 1 none).kp⟩
 refine ck (qn (bi a1 fun d4 d5 a1 => cut1 b5 d4 [2, 3, 4, 5, 6, 12, 13, 14] (fun d6 => []) ?_ ?_))
 refine sr (wp 3 (nq (ce (lpS (fun c1 a9 => adi fu a2 a3 c1 a9) (0 : Int) b5 d5 [2, 3, 4, 5, 6, 12, 13, 14, 28, 29] (fun a9 => [(29, (Vi .i64 a9))]) (fun _ => rfl) ?_))))
 rintro c1 a9 g0 G b6 a4
 rw [adi.eq_2] at a4
 refine sr (wp 1 (nq (cs (cd a4 (fun d7 a4 => ?_) (fun d7 a4 => ?_)))))
 refine ck (qn (cs (ce (sr (wp 2 (nq (cs ?_)))))))
 refine cr (wp 2 (gi a4 fun d8 a4 => abi (el a2 a3) .i64 a9 underlying9 krf krf d8 (bi a4 fun g1 d9 a4 => wc ent190 b6 (K_L_address_hexDigit d9 (hG.hp0 b6)) fun g2 c2 => wp 5 (nq (cs ?_)))))
 refine cr (wp 2 (nq (cb a4 (fun e0 a4 => ?_) (fun e0 a4 => ?_))))
 refine sr (wp 2 (nq (ct (bt_ (st (adg (bt_ ?_)))))))
 refine adg ?_
 obtain rfl := oi a4
 refine bt_ (adg ?_)
 obtain rfl := oi a1
 refine adg (bt_ (adg ?_))
 obtain rfl := oi a5
 obtain rfl := oi hr
 refine r_two (Vs none 0 0) (Vb false) rfl krf krf ?_
 exact ⟨none, none, 0, (by first | rfl | (simp; done) | (simp; omega)), (Hp.nilrw c2 eS 9 1 none).kp⟩
 exact ck (bn (qn (cr (gi a4 fun e1 a4 => aae a9 (1 : Int) krf krf e1 (wp 1 (wl (ql (le' (a9 + (1 : Int)) c2.kp a4))))))))
 refine abq (abp (aby (abr (ql ?_))))
 obtain rfl := oi a4
 exact je1 rfl b6.kp
 rintro d6 g3 G c3 rfl
 refine sr (wp 1 (bi a1 fun b2 e2 a1 => wc ent67 c3 (adu e2 (hG.hp0 c3)) fun e3 e4 => gi a1 fun e5 a1 => gi a1 fun e6 a1 => aat 191 #[] [(str b2), (str ([48] : Str))] _ ent191 krf krf (sh_TrimLeft b2 ([48] : Str) e3 e5 e6) ?_))
 rintro _ g5 ⟨rfl, c4⟩
 have b4 := e4.call c4; clear c4
 refine wp 1 (nq (cs (sr (wp 2 (nq (cd a1 (fun e7 a1 => ?_) (fun e7 a1 => ?_)))))))
 refine cr (wp 1 (nq (cr (wp 3 (gi a1 fun e8 a1 => ahl a6 a2.length cap7 9 1 .i64 a3 underlying70 krf krf krf a2 rfl e8 (b4.rdrw 0 rfl) apr (by decide) (gi a1 fun e9 a1 => w_stE1 b4 0 o5 a6 cap7 9 a3 a2 ([48] : Str) rfl apr (str ([48] : Str)) e9 krf krf krf krf fun f0 b7 => ?_))))))
 replace b7 : Hp w [] [rwt eS 9 1 o5 a6 cap7 (zal a2 (zac a3) ([48] : Str))] f0 := b7
 refine wl (bn (ql ?_))
 obtain rfl := oi a1
 exact ⟨zal a2 (zac a3) ([48] : Str), _, rfl, (mc krf (mc krf (mc (Eq.trans (b := (Vs a6 a2.length cap7)) krf (aaj lsy)) (mc (Eq.trans (b := (Vs a6 a2.length cap7)) krf (aaj lsy)) (mc krf (mc krf rfl)))))), b7.kp, lsz, rfl⟩
 refine ck (qn (cr (wp 3 (gi a1 fun f1 a1 => ahl a6 a2.length cap7 9 1 .i64 a3 underlying70 krf krf krf a2 rfl f1 (b4.rdrw 0 rfl) apr (by decide) (gi a1 fun f2 a1 => w_stE1 b4 0 o5 a6 cap7 9 a3 a2 (zaD b2 ([48] : Str)) rfl apr (str (zaD b2 ([48] : Str))) f2 krf krf krf krf fun f3 b8 => ?_)))))
 replace b8 : Hp w [] [rwt eS 9 1 o5 a6 cap7 (zal a2 (zac a3) (zaD b2 ([48] : Str)))] f3 := b8
 refine wl (bn (ql ?_))
 obtain rfl := oi a1
 exact ⟨zal a2 (zac a3) (zaD b2 ([48] : Str)), _, rfl, (mc krf (mc krf (mc (Eq.trans (b := (Vs a6 a2.length cap7)) krf (aaj lsy)) (mc (Eq.trans (b := (Vs a6 a2.length cap7)) krf (aaj lsy)) (mc krf (mc krf rfl)))))), b8.kp, lsz, rfl⟩
 rintro a7 g6 G ⟨f4, g7, rfl⟩
 refine cr (gi a5 fun f5 a5 => aae a3 (1 : Int) krf krf f5 (wp 1 (wl (ql ?_))))
 exact ⟨(b0, a7, a3 + (1 : Int)), _, rfl, by kernel_rfl, ⟨f4.kp, lsz, a5⟩, zad _⟩
 refine abq (abp (aby (abr (ql ?_))))
 obtain rfl := oi a5
 exact ⟨a2, _, rfl, by kernel_rfl, b1.kp, lsz, rfl⟩
 rintro a8 g8 G ⟨f6, g9, rfl⟩
 refine sr (wp 3 (nq (ct ?_)))
 obtain rfl := oi hr
 refine r_two (Vs a6 a8.length cap7) (Vb true) rfl krf krf ?_
 exact ⟨o5, a6, cap7, (by first | rfl | (simp; done) | (simp; omega)), f6.kp⟩
open Go.Lib renaming cut → zaK, index → zaq, join → zaB
open List renaming drop → zam, take → zaz
theorem ent50 : Wk.Enters prog 50 := ⟨f50, _, func50, rfl, krf⟩
theorem ent85 : Wk.Enters prog 85 := ⟨f85, _, func85, rfl, krf⟩
theorem ent86 : Wk.Enters prog 86 := ⟨f86, _, func86, rfl, krf⟩
theorem ent87 : Wk.Enters prog 87 := ⟨f87, _, func87, rfl, krf⟩
theorem ent149 : Wk.Enters prog 149 := ⟨f149, _, func149, rfl, krf⟩
theorem ent150 : Wk.Enters prog 150 := ⟨f150, _, func150, rfl, krf⟩
theorem ent151 : Wk.Enters prog 151 := ⟨f151, _, func151, rfl, krf⟩
theorem ent154 : Wk.Enters prog 154 := ⟨f154, _, func154, rfl, krf⟩
theorem ent193 : Wk.Enters prog 193 := ⟨f193, _, func193, rfl, krf⟩
theorem ent227 : Wk.Enters prog 227 := ⟨f227, _, func227, rfl, krf⟩
theorem K_L_address_groups {fu : Nat} {s_0 : Str} {w : World} {r : (Str × Bool)} (hr : akt fu s_0 = some r) (hG : Gl w) : CR prog 85 [(str s_0)] w fun v w' => v = (zak #[(str r.1), (Vb r.2)]) ∧ Hp w [] [] w' := by
 have hH := Hp.refl w
 refine enter (k := 71) func85 rfl rfl nbe ?_
 unfold akt at hr
 refine sr (wp 2 (nq (cs (sr (wp 3 (wl ?_))))))
 refine qn (cd hr (fun h1 hr => ?_) (fun h1 hr => ?_))
 refine sr (wp 2 (nq (ct (st ?_))))
 obtain rfl := oi hr
 exact rv hH.kp
 refine ck (qn (sr (wp 1 (gi hr fun g5 hr => aat 150 #[] [(str s_0), (str ([58, 58] : Str))] _ ent150 krf krf (sh_Cut s_0 ([58, 58] : Str) w g5 (hG.hp0 hH)) ?_))))
 rintro _ w2 ⟨rfl, c3⟩
 have b1 := hH.call c3; clear c3
 refine wp 7 (nq (cs (sr (wp 2 (nq (cb hr (fun h6 hr => ?_) (fun h6 hr => ?_)))))))
 refine sr (wp 1 (bi hr fun y7 d7 hr => aat 151 #[] [(str s_0)] _ ent151 krf krf (alv d7 (hG.hp0 b1)) ?_))
 rintro _ w9 ⟨d8, b5, b6, rfl, c4⟩
 have b7 : Hp w [] [rwt eS 9 1 d8 b5 b6 y7.1] w9 := Hp.callK (L1 := []) (L2 := []) b1 c4; clear c4
 refine wp 5 (nq (bi hr fun d9 a5 hr => cut (σ := Bool) [2, 3, 4, 5] (fun b2 => [(2, (str (zaB y7.1 ([58] : Str)))), (3, (Vb b2))]) (fun b2 w' => Hp w [] [] w' ∧ b2 = d9) ?_ ?_))
 refine cr (wp 1 (gi a5 fun e0 a5 => aat 59 #[] [(Vs b5 y7.1.length b6), (str ([58] : Str))] _ ent59 krf krf (sh_Join ([58] : Str) w9 b5 y7.1.length b6 y7.1 rfl (b7.rdrw 0 rfl) (b7.rwcap 0 rfl) e0) ?_))
 rintro _ g6 ⟨rfl, c5⟩
 have c6 := b7.call c5; clear c5
 refine wp 1 (wb a5 (fun e1 a5 => ?_) (fun e1 a5 => ?_))
 refine wp 6 (wl (ql ?_))
 obtain rfl := oi a5
 exact ⟨(decide ((y7.1.length : Int) = (8 : Int))), _, rfl, by kernel_rfl, c6.kp, rfl⟩
 refine wp 6 (wl (ql ?_))
 obtain rfl := oi a5
 exact ⟨false, _, rfl, by kernel_rfl, c6.kp, rfl⟩
 rintro b2 g7 G ⟨e2, rfl⟩
 refine ct (st ?_)
 obtain rfl := oi hr
 exact rv e2.kp
 refine ck (qn (sr (wp 2 (nq (sr (wp 2 ?_))))))
 refine nq (bi hr fun e3 a6 hr => cut (σ := ((List Str) × Bool) × (Option Nat) × (Option Addr) × Nat) [2, 3, 5, 9, 10, 11, 12] (fun ⟨a0, a8, a3, a4⟩ => [(9, (Vs a3 a0.1.length a4)), (11, (Vb a0.2))]) (fun ⟨a0, a8, a3, a4⟩ w' => Hp w [] [rwt eS 9 1 a8 a3 a4 a0.1] w' ∧ a0 = e3) ?_ ?_)
 refine sr (wp 2 (nq (cn a6 (fun e4 a6 => ?_) (fun e4 a6 => ?_))))
 refine cr (wp 1 (bi a6 fun b8 e5 a6 => aat 151 #[] [(str ((zaK s_0 ([58, 58] : Str)).1))] _ ent151 krf krf (alv e5 (hG.hp0 b1)) ?_))
 rintro _ e6 ⟨c7, c8, c9, rfl, d0⟩
 have e7 : Hp w [] [rwt eS 9 1 c7 c8 c9 b8.1] e6 := Hp.callK (L1 := []) (L2 := []) b1 d0; clear d0
 refine wp 5 (wl (ql ?_))
 obtain rfl := oi a6
 exact ⟨((b8.1, b8.2), c7, c8, c9), _, rfl, by kernel_rfl, e7.kp, rfl⟩
 refine ck (ql ?_)
 obtain rfl := oi a6
 exact ⟨((([] : List Str), true), none, none, 0), _, rfl, (mc krf (mc krf (mc krf (mc (Eq.trans (b := (Vs none 0 0)) krf (aaj lsy)) (mc krf (mc krf (mc krf rfl))))))), (Hp.nilrw b1 eS 9 1 none).kp, rfl⟩
 rintro ⟨a0, a8, a3, a4⟩ g8 G ⟨b9, rfl⟩
 refine bi hr fun e8 a7 hr => cut (σ := ((List Str) × Bool) × (Option Nat) × (Option Addr) × Nat) [2, 3, 9, 10, 11, 12] (fun ⟨a1, c0, a9, b0⟩ => [(10, (Vs a9 a1.1.length b0)), (12, (Vb a1.2))]) (fun ⟨a1, c0, a9, b0⟩ w' => Hp w [] [rwt eS 9 1 a8 a3 a4 a0.1, rwt eS 9 1 c0 a9 b0 a1.1] w' ∧ a1 = e8) ?_ ?_
 refine sr (wp 2 (nq (cn a7 (fun e9 a7 => ?_) (fun e9 a7 => ?_))))
 refine cr (wp 1 (bi a7 fun c1 f0 a7 => aat 151 #[] [(str ((zaK s_0 ([58, 58] : Str)).2.1))] _ ent151 krf krf (alv f0 (hG.hp0 b9)) ?_))
 rintro _ f1 ⟨d1, d2, d3, rfl, d4⟩
 have f2 : Hp w [] [rwt eS 9 1 d1 d2 d3 c1.1, rwt eS 9 1 a8 a3 a4 a0.1] f1 := Hp.callK (L1 := []) (L2 := [rwt eS 9 1 a8 a3 a4 a0.1]) b9 d4; clear d4
 refine wp 5 (wl (ql ?_))
 obtain rfl := oi a7
 exact ⟨((c1.1, c1.2), d1, d2, d3), _, rfl, by kernel_rfl, (Hp.front f2 1 _ rfl).kp, rfl⟩
 refine ck (ql ?_)
 obtain rfl := oi a7
 exact ⟨((([] : List Str), true), none, none, 0), _, rfl, (mc krf (mc krf (mc krf (mc (Eq.trans (b := (Vs none 0 0)) krf (aaj lsy)) (mc krf (mc krf rfl)))))), (Hp.front (Hp.nilrw b9 eS 9 1 none) 1 _ rfl).kp, rfl⟩
 rintro ⟨a1, c0, a9, b0⟩ g9 G ⟨b3, rfl⟩
 refine cs (bi hr fun f3 a2 hr => age b3 [2, 3, 9, 10, 64] [(64, (Vb f3))] ?_ ?_)
 refine cr (wp 2 (wb a2 (fun f4 a2 => ?_) (fun f4 a2 => ?_)))
 refine wp 11 (wl (ql ?_))
 obtain rfl := oi a2
 exact je (Hp.front (Hp.front b3 1 _ rfl) 1 _ rfl).kp
 refine wp 3 (wb a2 (fun f5 a2 => ?_) (fun f5 a2 => ?_))
 refine wp 7 (wl (ql ?_))
 obtain rfl := oi a2
 exact je (Hp.front (Hp.front b3 1 _ rfl) 1 _ rfl).kp
 refine wp 4 (gy 57 (gi a2 fun f6 a2 => aae (a0.1.length : Int) (a1.1.length : Int) krf krf f6 (wp 2 (wl (ql ?_)))))
 obtain rfl := oi a2
 exact je (Hp.front (Hp.front b3 1 _ rfl) 1 _ rfl).kp
 intro f7 G b4
 refine cb hr (fun f8 hr => ?_) (fun f8 hr => ?_)
 refine sr (wp 2 (nq (ct (st ?_))))
 obtain rfl := oi hr
 exact rv b4.kp
 refine ck (qn (sr (wp 1 (gi hr fun f9 hr => aat 59 #[] [(Vs a3 a0.1.length a4), (str ([58] : Str))] _ ent59 krf krf (sh_Join ([58] : Str) f7 a3 a0.1.length a4 a0.1 rfl (b4.rdrw 0 rfl) (b4.rwcap 0 rfl) f9) ?_))))
 rintro _ g0 ⟨rfl, d5⟩
 have c2 := b4.call d5; clear d5
 refine gi hr fun g1 hr => adf (zaB a0.1 ([58] : Str)) ([58, 58] : Str) krf krf g1 (wp 1 (gi hr fun g2 hr => aat 59 #[] [(Vs a9 a1.1.length b0), (str ([58] : Str))] _ ent59 krf krf (sh_Join ([58] : Str) g0 a9 a1.1.length b0 a1.1 rfl (c2.rdrw 1 rfl) (c2.rwcap 1 rfl) g2) ?_))
 rintro _ h0 ⟨rfl, d6⟩
 have g3 := c2.call d6; clear d6
 refine gi hr fun g4 hr => adf ((zaB a0.1 ([58] : Str)) ++ ([58, 58] : Str)) (zaB a1.1 ([58] : Str)) krf krf g4 (wp 2 (nq (ct ?_)))
 obtain rfl := oi hr
 exact rv g3.kp
theorem K_L_address_numbers {fu : Nat} {s_0 : Str} {w : World} {r : Bool} (hr : ajy fu s_0 = some r) (hG : Gl w) : CR prog 86 [(str s_0)] w fun v w' => v = (Vb r) ∧ Hp w [] [] w' := by
 have hH := Hp.refl w
 refine enter (k := 54) func86 rfl rfl nbe ?_
 unfold ajy at hr
 refine sr (wp 1 (nq (cs (sr (wp 3 (wl ?_))))))
 refine qn (cd hr (fun h1 hr => ?_) (fun h1 hr => ?_))
 refine sr (wp 1 (nq (ct (st ?_))))
 obtain rfl := oi hr
 exact rv hH.kp
 refine ck (qn (sr (wp 1 (gi hr fun g5 hr => aat 152 #[] [(str s_0), (str ([46] : Str))] _ ent152 krf krf (sh_Split s_0 46 w g5 (hG.hp0 hH)) ?_))))
 rintro _ w2 ⟨o6, a7, cap8, rfl, b2⟩
 have b3 : Hp w [] [rwt eS 9 1 o6 a7 cap8 (spl 46 s_0)] w2 := Hp.callK (L1 := []) (L2 := []) hH b2; clear b2
 refine wp 1 (nq (bi hr fun b9 c0 hr => cut1 b3 b9 [2, 3] (fun c1 => []) ?_ ?_))
 refine sr (wp 3 (nq (ce (lpS (fun b4 a1 => aek fu s_0 b4 a1) (0 : Int) b3 c0 [2, 3, 13, 14, 15] (fun a1 => [(15, (Vi .i64 a1))]) (fun _ => rfl) ?_))))
 rintro b4 a1 e7 G a8 a3
 rw [aek.eq_2] at a3
 refine sr (wp 1 (nq (cs (cd a3 (fun c2 a3 => ?_) (fun c2 a3 => ?_)))))
 refine ck (qn (bi a3 fun c3 a2 a3 => cut1 a8 c3 [2, 3, 13, 14, 15] (fun c4 => []) ?_ ?_))
 refine ce (sr (gi a2 fun c5 a2 => ahl a7 ((spl 46 s_0).length) cap8 9 1 .i64 a1 underlying70 krf krf krf (spl 46 s_0) rfl c5 (a8.rdrw 0 rfl) apr (by decide) (gi a2 fun c6 a2 => apo a7 eS (spl 46 s_0) 1 a1 apr (a8.rdrw 0 rfl) (str (el (spl 46 s_0) a1)) c6 (by decide) krf krf krf (wp 1 (nq ?_)))))
 refine sr (wp 1 (nq (bi a2 fun c7 c8 a2 => cut1 a8 c7 [2, 3, 5, 6, 13, 14, 15] (fun b0 => [(6, (Vi .i64 b0))]) ?_ ?_)))
 refine sr (wp 3 (nq (ce (lpS (fun b5 ⟨a6, a4⟩ => aej fu s_0 a1 b5 a6 a4) ((0 : Int), (0 : Int)) a8 c8 [2, 3, 5, 6, 13, 14, 15, 20, 21] (fun ⟨a6, a4⟩ => [(6, (Vi .i64 a6)), (21, (Vi .i64 a4))]) (fun _ => rfl) ?_))))
 rintro b5 ⟨a6, a4⟩ e8 G b1 a0
 dsimp only at a0
 rw [aej.eq_2] at a0
 refine sr (wp 1 (nq (cs (cd a0 (fun c9 a0 => ?_) (fun c9 a0 => ?_)))))
 refine ck (qn (cs (ce (sr (wp 2 (nq (cs ?_)))))))
 refine sr (wp 2 (gi a0 fun d0 a0 => abi (el (spl 46 s_0) a1) .i64 a4 underlying9 krf krf d0 (bi a0 fun e9 d1 a0 => wc ent153 b1 (ame d1 (hG.hp0 b1)) fun f0 b6 => wp 1 (nq (cb a0 (fun d2 a0 => ?_) (fun d2 a0 => ?_))))))
 refine sr (wp 1 (nq (ct (st (bt_ (st (adg ?_)))))))
 refine bt_ (adg ?_)
 obtain rfl := oi a0
 refine bt_ (adg ?_)
 obtain rfl := oi a2
 refine adg (bt_ (adg ?_))
 obtain rfl := oi a3
 obtain rfl := oi hr
 exact rv b6.kp
 refine ck (qn (cr (wp 1 (gi a0 fun d3 a0 => aou (10 : Int) a6 krf krf d3 (wp 2 (gi a0 fun d4 a0 => abi (el (spl 46 s_0) a1) .i64 a4 underlying9 krf krf d4 (w8_sub (at_ (el (spl 46 s_0) a1) a4) (48 : UInt8) krf krf ?_)))))))
 refine w_convx .i64 .u8 (((at_ (el (spl 46 s_0) a1) a4) - (48 : UInt8)).toNat : Int) underlying5 underlying3 krf (amt _) (gi a0 fun d5 a0 => aae ((10 : Int) * a6) (((at_ (el (spl 46 s_0) a1) a4) - (48 : UInt8)).toNat : Int) krf krf d5 (wp 1 (wl (bn (qn (cr (gi a0 fun d6 a0 => aae a4 (1 : Int) krf krf d6 ?_)))))))
 exact wp 1 (wl (ql (le' (((10 : Int) * a6) + (((at_ (el (spl 46 s_0) a1) a4) - (48 : UInt8)).toNat : Int), a4 + (1 : Int)) b6.kp a0)))
 refine abq (abp (aby (abr (ql ?_))))
 obtain rfl := oi a0
 exact je1 rfl b1.kp
 rintro b0 d7 G a9 rfl
 refine bi a2 fun d8 a5 a2 => age a9 [2, 3, 13, 14, 15, 49] [(49, (Vb d8))] ?_ ?_
 refine cr (wp 2 (wd a5 (fun d9 a5 => ?_) (fun d9 a5 => ?_)))
 refine wp 9 (wl (ql ?_))
 obtain rfl := oi a5
 exact je a9.kp
 refine wp 3 (wd a5 (fun e0 a5 => ?_) (fun e0 a5 => ?_))
 refine wp 5 (wl (ql ?_))
 obtain rfl := oi a5
 exact je a9.kp
 refine wp 2 (gy 44 (gi a5 fun e1 a5 => aat 50 #[] [(Vi .i64 b0)] _ ent50 krf krf (sh_Itoa b0 d7 e1 (hG.hp0 a9)) ?_))
 rintro _ f1 ⟨rfl, b7⟩
 have e2 := a9.call b7; clear b7
 refine wp 2 (wl (ql ?_))
 obtain rfl := oi a5
 exact je e2.kp
 intro f2 G b8
 refine cb a2 (fun e3 a2 => ?_) (fun e3 a2 => ?_)
 refine sr (wp 1 (nq (ct (bt_ (adg ?_)))))
 obtain rfl := oi a2
 refine adg (bt_ (adg ?_))
 obtain rfl := oi a3
 obtain rfl := oi hr
 exact rv b8.kp
 refine ck (bn (ql ?_))
 obtain rfl := oi a2
 exact je1 rfl b8.kp
 rintro c4 f3 G e4 rfl
 exact cr (gi a3 fun e5 a3 => aae a1 (1 : Int) krf krf e5 (wp 1 (wl (ql (le' (a1 + (1 : Int)) e4.kp a3)))))
 refine abq (abp (aby (abr (ql ?_))))
 obtain rfl := oi a3
 exact je1 rfl a8.kp
 rintro c1 f4 G e6 rfl
 refine sr (wp 4 (nq (ct ?_)))
 obtain rfl := oi hr
 exact rv e6.kp
theorem K_L_strings_splitSeq {fu : Nat} {s_0 : Str} {a0 : Str} {a1 : Int} {w : World} {r : (Str × Str × Int)} (hr : ald fu s_0 a0 a1 = some r) (hG : Gl w) : CR prog 193 [(str s_0), (str a0), (Vi .i64 a1)] w fun v w' => ∃ (b0 : Nat), ∃ (b1 : Nat), ∃ (b2 : Nat), v = (zap (.func 227) #[] #[(Vp (some ⟨b0, 0, none⟩)), (Vp (some ⟨b1, 0, none⟩)), (Vp (some ⟨b2, 0, none⟩))]) ∧ Hp w [] [blk b0 [(str r.1)] 9, blk b1 [(str r.2.1)] 9, blk b2 [(Vi .i64 r.2.2)] 3] w' := by
 have hH := Hp.refl w
 refine enter (k := 8) func193 rfl rfl nbe ?_
 unfold ald at hr
 refine sr (adr hH [(str s_0)] 9 (fun b => (Vp (some ⟨b, 0, none⟩))) rfl rfl krf fun b1 w2 a2 => adr a2 [(str a0)] 9 (fun b => (Vp (some ⟨b, 0, none⟩))) rfl rfl krf fun b4 w5 a3 => adr a3 [(Vi .i64 a1)] 3 (fun b => (Vp (some ⟨b, 0, none⟩))) rfl rfl krf fun b7 w8 a4 => wp 1 (nq (sr ?_)))
 refine wp 2 (nq (ct ?_))
 obtain rfl := oi hr
 refine r_one (zap (.func 227) #[] #[(Vp (some ⟨b4, 0, none⟩)), (Vp (some ⟨b1, 0, none⟩)), (Vp (some ⟨b7, 0, none⟩))]) rfl krf ?_
 exact ⟨b4, b1, b7, (by first | rfl | (simp; done) | (simp; omega)), (Hp.front (Hp.front a4 2 _ rfl) 2 _ rfl).kp⟩
theorem K_L_strings_SplitSeq {fu : Nat} {s_0 : Str} {a0 : Str} {w : World} {r : (Str × Str × Int)} (hr : ale fu s_0 a0 = some r) (hG : Gl w) : CR prog 154 [(str s_0), (str a0)] w fun v w' => ∃ (b0 : Nat), ∃ (b1 : Nat), ∃ (b2 : Nat), v = (zap (.func 227) #[] #[(Vp (some ⟨b0, 0, none⟩)), (Vp (some ⟨b1, 0, none⟩)), (Vp (some ⟨b2, 0, none⟩))]) ∧ Hp w [] [blk b0 [(str r.1)] 9, blk b1 [(str r.2.1)] 9, blk b2 [(Vi .i64 r.2.2)] 3] w' := by
 have hH := Hp.refl w
 refine enter (k := 8) func154 rfl rfl nbe ?_
 unfold ale at hr
 refine sr (wp 1 (nq (sr (wp 2 (bi hr fun y1 a2 hr => aat 193 #[] [(str s_0), (str a0), (Vi .i64 (0 : Int))] _ ent193 krf krf (K_L_strings_splitSeq a2 (hG.hp0 hH)) ?_)))))
 rintro _ w3 ⟨b6, b7, b8, rfl, a1⟩
 have a3 : Hp w [] (Zz73 b6 y1.1 b7 y1.2.1 b8 y1.2.2) w3 := Hp.callK (L1 := []) (L2 := []) hH a1; clear a1
 refine wp 1 (nq (ct ?_))
 obtain rfl := oi hr
 refine r_one (zap (.func 227) #[] #[(Vp (some ⟨b6, 0, none⟩)), (Vp (some ⟨b7, 0, none⟩)), (Vp (some ⟨b8, 0, none⟩))]) rfl krf ?_
 exact ⟨b6, b7, b8, (by first | rfl | (simp; done) | (simp; omega)), (Hp.front (Hp.front (Hp.front a3 2 _ rfl) 2 _ rfl) 2 _ rfl).kp⟩
theorem alm {fu : Nat} {b3 : Bool} {b4 : Bool} {a0 : Str} {b1 : Str} {a2 : Int} (a1 : Nat) (a4 : Loop) (a5 : Nat) (a6 : Nat) (a7 : Nat) (a3 : Nat) (a8 : Nat) {w : World} {r : (Bool × Bool × Str × Nat)} (hr : adx fu b3 b4 a0 b1 a2 = some r) (hG : Gl w) (hM : Hp w (abh [ahc a1 0 a4, blk a5 [(Vb b3)] 4, blk a6 [(Vb b4)] 4, blk a7 [(str a0)] 9, blk a3 [(str b1)] 9, blk a8 [(Vi .i64 a2)] 3]) [ahc a1 0 a4, blk a5 [(Vb b3)] 4, blk a6 [(Vb b4)] 4, blk a7 [(str a0)] 9, blk a3 [(str b1)] 9, blk a8 [(Vi .i64 a2)] 3] w) (hS : ∀ b ∈ abh [ahc a1 0 a4, blk a5 [(Vb b3)] 4, blk a6 [(Vb b4)] 4, blk a7 [(str a0)] 9, blk a3 [(str b1)] 9, blk a8 [(Vi .i64 a2)] 3], 9 ≤ b) (d2 : ∀  (d3 : Str) (c9 : Bool) (d0 : Bool) (w_ : World), Hp w (abh [ahc a1 0 a4, blk a5 [(Vb b3)] 4, blk a6 [(Vb b4)] 4, blk a7 [(str a0)] 9, blk a3 [(str b1)] 9, blk a8 [(Vi .i64 a2)] 3]) [ahc a1 0 a4, blk a5 [(Vb c9)] 4, blk a6 [(Vb d0)] 4] w_ → ∀ (yr : (Nat × Bool × Bool)), aen fu d3 c9 d0 = some yr → YR prog a1 [(str d3)] w_ fun v e3 => v = Vb (decide (yr.1 = 0)) ∧ Hp w_ (abh [ahc a1 0 a4, blk a5 [(Vb c9)] 4, blk a6 [(Vb d0)] 4]) [ahc a1 yr.1 a4, blk a5 [(Vb yr.2.1)] 4, blk a6 [(Vb yr.2.2)] 4] e3) : CR prog 227 [(zap (.yield a1) #[] #[]), (Vp (some ⟨a7, 0, none⟩)), (Vp (some ⟨a3, 0, none⟩)), (Vp (some ⟨a8, 0, none⟩))] w fun v w' => v = (zak #[]) ∧ Hp w (abh [ahc a1 0 a4, blk a5 [(Vb b3)] 4, blk a6 [(Vb b4)] 4, blk a7 [(str a0)] 9, blk a3 [(str b1)] 9, blk a8 [(Vi .i64 a2)] 3]) [blk a5 [(Vb r.1)] 4, blk a6 [(Vb r.2.1)] 4, blk a7 [(str a0)] 9, blk a3 [(str r.2.2.1)] 9, blk a8 [(Vi .i64 a2)] 3, ahc a1 r.2.2.2 a4] w' := by
 have hH : Hp w (abh [ahc a1 0 a4, blk a5 [(Vb b3)] 4, blk a6 [(Vb b4)] 4, blk a7 [(str a0)] 9, blk a3 [(str b1)] 9, blk a8 [(Vi .i64 a2)] 3]) [ahc a1 0 a4, blk a5 [(Vb b3)] 4, blk a6 [(Vb b4)] 4, blk a7 [(str a0)] 9, blk a3 [(str b1)] 9, blk a8 [(Vi .i64 a2)] 3] w := hM
 refine enterF (k := 52) func227 rfl rfl nbe ?_
 unfold adx at hr
 refine bi hr fun e4 b8 hr => cut1 hH e4 [0, 1, 2, 3] (fun e5 => []) ?_ ?_
 refine sr (abs hH 3 a7 0 [(str a0)] 9 (str a0) rfl rfl krf krf (wp 2 (nq (cd b8 (fun e6 b8 => ?_) (fun e6 b8 => ?_)))))
 refine bi b8 fun h0 e7 b8 => age hH [0, 1, 2, 3] [] ?_ ?_
 refine ce (lpS (fun d4 (_ : Unit) => aeo fu b1 d4) () hH e7 [0, 1, 2, 3] (fun (_ : Unit) => []) (fun _ => rfl) ?_)
 rintro d4 _ h1 G d5 c0
 rw [aeo.eq_2] at c0
 refine cs (sr (abs d5 4 a3 0 [(str b1)] 9 (str b1) rfl rfl krf krf (wp 2 (nq (cd c0 (fun e8 c0 => ?_) (fun e8 c0 => ?_))))))
 exact nzz c0
 refine abq (abp (aby (abr (ql ?_))))
 obtain rfl := oi c0
 exact je (Hp.front (Hp.front (Hp.front (Hp.front (Hp.front (Hp.front d5 5 _ rfl) 5 _ rfl) 5 _ rfl) 5 _ rfl) 5 _ rfl) 5 _ rfl).kp
 intro h2 G e9
 refine ct (adg ?_)
 obtain rfl := oi b8
 obtain rfl := oi hr
 refine r_none  rfl  ?_
 exact ⟨(by first | rfl | (simp; done) | (simp; omega)), (Hp.front (Hp.front (Hp.front (Hp.front (Hp.front e9 5 _ rfl) 5 _ rfl) 5 _ rfl) 5 _ rfl) 5 _ rfl).kp⟩
 refine ck (ql ?_)
 obtain rfl := oi b8
 exact je1 rfl (Hp.front (Hp.front (Hp.front (Hp.front (Hp.front (Hp.front hH 5 _ rfl) 5 _ rfl) 5 _ rfl) 5 _ rfl) 5 _ rfl) 5 _ rfl).kp
 rintro e5 h3 G f0 rfl
 refine bi hr fun d6 f1 hr => cut (σ := (Bool × Bool × Str)) [0, 2] (fun b0 => []) (fun b0 w' => Hp w (abh [ahc a1 0 a4, blk a5 [(Vb b3)] 4, blk a6 [(Vb b4)] 4, blk a7 [(str a0)] 9, blk a3 [(str b1)] 9, blk a8 [(Vi .i64 a2)] 3]) [ahc a1 0 a4, blk a5 [(Vb b0.1)] 4, blk a6 [(Vb b0.2.1)] 4, blk a7 [(str a0)] 9, blk a3 [(str b0.2.2)] 9, blk a8 [(Vi .i64 a2)] 3] w' ∧ .inl b0 = d6) ?_ ?_
 refine ce (lpG (σ := Nat × Bool × Bool × Str) [0, 1, 2, 3] (fun ⟨c1, b5, b6, a9⟩ => []) (fun ⟨c1, b5, b6, a9⟩ w' => Hp w (abh [ahc a1 0 a4, blk a5 [(Vb b3)] 4, blk a6 [(Vb b4)] 4, blk a7 [(str a0)] 9, blk a3 [(str b1)] 9, blk a8 [(Vi .i64 a2)] 3]) [ahc a1 0 a4, blk a5 [(Vb b5)] 4, blk a6 [(Vb b6)] 4, blk a7 [(str a0)] 9, blk a3 [(str a9)] 9, blk a8 [(Vi .i64 a2)] 3] w' ∧ abf fu a0 a2 c1 b5 b6 a9 = some d6) (fun ⟨c1, b5, b6, a9⟩ => c1) (fu, b3, b4, b1) (by exact ⟨(Hp.front (Hp.front (Hp.front (Hp.front (Hp.front (Hp.front f0 5 _ rfl) 5 _ rfl) 5 _ rfl) 5 _ rfl) 5 _ rfl) 5 _ rfl).kp, f1⟩) ?_)
 rintro ⟨_ | c1, b5, b6, a9⟩ f2 G ⟨c7, b2⟩
 · exact nzz b2
 rw [abf.eq_2] at b2
 refine ce (sr (abs c7 4 a3 0 [(str a9)] 9 (str a9) rfl rfl krf krf (abs c7 3 a7 0 [(str a0)] 9 (str a0) rfl rfl krf krf (gi b2 fun f3 b2 => aat 149 #[] [(str a9), (str a0)] _ ent149 krf krf (sh_Index a9 a0 f2 f3 (hG.hp c7 hS)) ?_))))
 rintro _ c2 ⟨rfl, d7⟩
 have c8 := c7.call d7; clear d7
 refine wp 1 (nq (cs (sr (wp 2 (nq (cd b2 (fun f4 b2 => ?_) (fun f4 b2 => ?_)))))))
 refine abq (abp (b_past krf (aby (abr (ql ?_)))))
 obtain rfl := oi b2
 exact ⟨(b5, b6, a9), _, rfl, by kernel_rfl, (Hp.front (Hp.front (Hp.front (Hp.front (Hp.front (Hp.front c8 5 _ rfl) 5 _ rfl) 5 _ rfl) 5 _ rfl) 5 _ rfl) 5 _ rfl).kp, rfl⟩
 refine ck (qn (sr (abs c8 4 a3 0 [(str a9)] 9 (str a9) rfl rfl krf krf (wp 1 (abs c8 5 a8 0 [(Vi .i64 a2)] 3 (Vi .i64 a2) rfl rfl krf krf (gi b2 fun f5 b2 => aae (zaq a9 a0) a2 krf krf f5 (gi b2 fun f6 b2 => ?_)))))))
 refine amw a9 .i64 ((zaq a9 a0) + a2) underlying9 krf krf f6 (wp 1 (nq (cs (sr (wp 2 (bi b2 fun b7 f7 b2 => ?_))))))
 have f8 : Hp w (abh [ahc a1 0 a4, blk a5 [(Vb b3)] 4, blk a6 [(Vb b4)] 4, blk a7 [(str a0)] 9, blk a3 [(str b1)] 9, blk a8 [(Vi .i64 a2)] 3]) [blk a6 [(Vb b6)] 4, ahc a1 0 a4, blk a5 [(Vb b5)] 4, blk a7 [(str a0)] 9, blk a3 [(str a9)] 9, blk a8 [(Vi .i64 a2)] 3] c2 := c8.front 2 _ rfl
 have f9 : Hp w (abh [ahc a1 0 a4, blk a5 [(Vb b3)] 4, blk a6 [(Vb b4)] 4, blk a7 [(str a0)] 9, blk a3 [(str b1)] 9, blk a8 [(Vi .i64 a2)] 3]) [blk a5 [(Vb b5)] 4, blk a6 [(Vb b6)] 4, ahc a1 0 a4, blk a7 [(str a0)] 9, blk a3 [(str a9)] 9, blk a8 [(Vi .i64 a2)] 3] c2 := f8.front 2 _ rfl
 have d8 : Hp w (abh [ahc a1 0 a4, blk a5 [(Vb b3)] 4, blk a6 [(Vb b4)] 4, blk a7 [(str a0)] 9, blk a3 [(str b1)] 9, blk a8 [(Vi .i64 a2)] 3]) [ahc a1 0 a4, blk a5 [(Vb b5)] 4, blk a6 [(Vb b6)] 4, blk a7 [(str a0)] 9, blk a3 [(str a9)] 9, blk a8 [(Vi .i64 a2)] 3] c2 := f9.front 2 _ rfl
 have g0 : Hp w (abh [ahc a1 0 a4, blk a5 [(Vb b3)] 4, blk a6 [(Vb b4)] 4, blk a7 [(str a0)] 9, blk a3 [(str b1)] 9, blk a8 [(Vi .i64 a2)] 3]) [ahc a1 0 a4, blk a5 [(Vb b5)] 4, blk a6 [(Vb b6)] 4] c2 := Hp.keep (L1 := [ahc a1 0 a4, blk a5 [(Vb b5)] 4, blk a6 [(Vb b6)] 4]) (L2 := (Zz73 a7 a0 a3 a9 a8 a2)) d8
 refine w_yield a1 [(str (zaz (zac ((zaq a9 a0) + a2)) a9))] _ krf krf (d2 (zaz (zac ((zaq a9 a0) + a2)) a9) b5 b6 c2 g0 b7 f7) ?_
 rintro _ g1 ⟨rfl, d9⟩
 have c3 : Hp w (abh [ahc a1 0 a4, blk a5 [(Vb b3)] 4, blk a6 [(Vb b4)] 4, blk a7 [(str a0)] 9, blk a3 [(str b1)] 9, blk a8 [(Vi .i64 a2)] 3]) [ahc a1 b7.1 a4, blk a5 [(Vb b7.2.1)] 4, blk a6 [(Vb b7.2.2)] 4, blk a7 [(str a0)] 9, blk a3 [(str a9)] 9, blk a8 [(Vi .i64 a2)] 3] g1 := Hp.callK (L1 := [ahc a1 0 a4, blk a5 [(Vb b5)] 4, blk a6 [(Vb b6)] 4]) (L2 := (Zz73 a7 a0 a3 a9 a8 a2)) d8 d9; clear d9
 by_cases c4 : b7.1 = 0
 replace b2 := ift c4 b2
 rw [c4] at c3
 rw [show decide (b7.1 = 0) = true from (decide_eq_true c4)]
 refine wp 1 (nq (arp krf (ck (qn (cr (abs c3 4 a3 0 [(str a9)] 9 (str a9) rfl rfl krf krf (wp 1 (abs c3 3 a7 0 [(str a0)] 9 (str a0) rfl rfl krf krf ?_))))))))
 refine wp 1 (gi b2 fun g2 b2 => aae (zaq a9 a0) (a0.length : Int) krf krf g2 (gi b2 fun g3 b2 => ahd a9 .i64 ((zaq a9 a0) + (a0.length : Int)) underlying9 krf krf g3 (aib c3 4 a3 0 [(str a9)] 9 (str (zam (zac ((zaq a9 a0) + (a0.length : Int))) a9)) [ahc a1 0 a4, blk a5 [(Vb b7.2.1)] 4, blk a6 [(Vb b7.2.2)] 4, blk a7 [(str a0)] 9, blk a3 [(str (zam (zac ((zaq a9 a0) + (a0.length : Int))) a9))] 9, blk a8 [(Vi .i64 a2)] 3] rfl (zaj (zad _) nbe) krf krf rfl krf rfl fun h4 g4 => wl (bn (ql ?_)))))
 exact ⟨(c1, b7.2.1, b7.2.2, zam (zac ((zaq a9 a0) + (a0.length : Int))) a9), _, rfl, by kernel_rfl, ⟨(Hp.front (Hp.front (Hp.front (Hp.front (Hp.front (Hp.front g4 5 _ rfl) 5 _ rfl) 5 _ rfl) 5 _ rfl) 5 _ rfl) 5 _ rfl).kp, b2⟩, zad _⟩
 replace b2 := ifn c4 b2
 rw [show decide (b7.1 = 0) = false from (decide_eq_false c4)]
 refine wp 1 (nq (c_true krf (ct (st (bt_ (adg (bt_ (adg ?_))))))))
 obtain rfl := oi b2
 obtain rfl := oi hr
 refine r_none  rfl  ?_
 exact ⟨(by first | rfl | (simp; done) | (simp; omega)), (Hp.front (Hp.front (Hp.front (Hp.front (Hp.front c3 5 _ rfl) 5 _ rfl) 5 _ rfl) 5 _ rfl) 5 _ rfl).kp⟩
 rintro b0 c5 G ⟨e0, rfl⟩
 refine cr (wp 1 (abs e0 4 a3 0 [(str b0.2.2)] 9 (str b0.2.2) rfl rfl krf krf (bi hr fun b9 g5 hr => ?_)))
 have g6 : Hp w (abh [ahc a1 0 a4, blk a5 [(Vb b3)] 4, blk a6 [(Vb b4)] 4, blk a7 [(str a0)] 9, blk a3 [(str b1)] 9, blk a8 [(Vi .i64 a2)] 3]) [blk a6 [(Vb b0.2.1)] 4, ahc a1 0 a4, blk a5 [(Vb b0.1)] 4, blk a7 [(str a0)] 9, blk a3 [(str b0.2.2)] 9, blk a8 [(Vi .i64 a2)] 3] c5 := e0.front 2 _ rfl
 have g7 : Hp w (abh [ahc a1 0 a4, blk a5 [(Vb b3)] 4, blk a6 [(Vb b4)] 4, blk a7 [(str a0)] 9, blk a3 [(str b1)] 9, blk a8 [(Vi .i64 a2)] 3]) [blk a5 [(Vb b0.1)] 4, blk a6 [(Vb b0.2.1)] 4, ahc a1 0 a4, blk a7 [(str a0)] 9, blk a3 [(str b0.2.2)] 9, blk a8 [(Vi .i64 a2)] 3] c5 := g6.front 2 _ rfl
 have e1 : Hp w (abh [ahc a1 0 a4, blk a5 [(Vb b3)] 4, blk a6 [(Vb b4)] 4, blk a7 [(str a0)] 9, blk a3 [(str b1)] 9, blk a8 [(Vi .i64 a2)] 3]) [ahc a1 0 a4, blk a5 [(Vb b0.1)] 4, blk a6 [(Vb b0.2.1)] 4, blk a7 [(str a0)] 9, blk a3 [(str b0.2.2)] 9, blk a8 [(Vi .i64 a2)] 3] c5 := g7.front 2 _ rfl
 have g8 : Hp w (abh [ahc a1 0 a4, blk a5 [(Vb b3)] 4, blk a6 [(Vb b4)] 4, blk a7 [(str a0)] 9, blk a3 [(str b1)] 9, blk a8 [(Vi .i64 a2)] 3]) [ahc a1 0 a4, blk a5 [(Vb b0.1)] 4, blk a6 [(Vb b0.2.1)] 4] c5 := Hp.keep (L1 := [ahc a1 0 a4, blk a5 [(Vb b0.1)] 4, blk a6 [(Vb b0.2.1)] 4]) (L2 := (Zz73 a7 a0 a3 b0.2.2 a8 a2)) e1
 refine w_yield a1 [(str b0.2.2)] _ krf krf (d2 b0.2.2 b0.1 b0.2.1 c5 g8 b9 g5) ?_
 rintro _ g9 ⟨rfl, e2⟩
 have d1 : Hp w (abh [ahc a1 0 a4, blk a5 [(Vb b3)] 4, blk a6 [(Vb b4)] 4, blk a7 [(str a0)] 9, blk a3 [(str b1)] 9, blk a8 [(Vi .i64 a2)] 3]) [ahc a1 b9.1 a4, blk a5 [(Vb b9.2.1)] 4, blk a6 [(Vb b9.2.2)] 4, blk a7 [(str a0)] 9, blk a3 [(str b0.2.2)] 9, blk a8 [(Vi .i64 a2)] 3] g9 := Hp.callK (L1 := [ahc a1 0 a4, blk a5 [(Vb b0.1)] 4, blk a6 [(Vb b0.2.1)] 4]) (L2 := (Zz73 a7 a0 a3 b0.2.2 a8 a2)) e1 e2; clear e2
 by_cases c6 : b9.1 = 0
 replace hr := ift c6 hr
 rw [c6] at d1
 rw [show decide (b9.1 = 0) = true from (decide_eq_true c6)]
 refine wl ?_
 obtain rfl := oi hr
 refine aju  rfl  ?_
 exact ⟨(by first | rfl | (simp; done) | (simp; omega)), (Hp.front (Hp.front (Hp.front (Hp.front (Hp.front d1 5 _ rfl) 5 _ rfl) 5 _ rfl) 5 _ rfl) 5 _ rfl).kp⟩
 replace hr := ifn c6 hr
 rw [show decide (b9.1 = 0) = false from (decide_eq_false c6)]
 refine wl ?_
 obtain rfl := oi hr
 refine aju  rfl  ?_
 exact ⟨(by first | rfl | (simp; done) | (simp; omega)), (Hp.front (Hp.front (Hp.front (Hp.front (Hp.front d1 5 _ rfl) 5 _ rfl) 5 _ rfl) 5 _ rfl) 5 _ rfl).kp⟩
theorem K_L_address_named {fu : Nat} {s_0 : Str} {w : World} {r : Bool} (hr : alt fu s_0 = some r) (hG : Gl w) : CR prog 87 [(str s_0)] w fun v w' => v = (Vb r) ∧ Hp w [] [] w' := by
 have hH := Hp.refl w
 refine enterM (k := 67) func87 rfl rfl nbe ?_
 unfold alt at hr
 refine sr (adr hH [(Vb false)] 4 (fun b => (Vp (some ⟨b, 0, none⟩))) rfl rfl krf fun b1 w2 c6 => nq (cs (bi hr fun v8 c0 hr => age c6 [0, 2, 14] [(14, (Vb v8))] ?_ ?_)))
 refine cr (wp 3 (wd c0 (fun h9 c0 => ?_) (fun h9 c0 => ?_)))
 refine wp 4 (wl (ql ?_))
 obtain rfl := oi c0
 exact je c6.kp
 refine wp 4 (wl (ql ?_))
 obtain rfl := oi c0
 exact je c6.kp
 intro j5 G d5
 refine cb hr (fun e3 hr => ?_) (fun e3 hr => ?_)
 refine sr (aib d5 0 b1 0 [(Vb false)] 4 (Vb false) [blk b1 [(Vb false)] 4] rfl (zaj (zad _) nbe) krf krf rfl krf rfl fun j6 d6 => nq (ct (st ?_)))
 obtain rfl := oi hr
 refine m_fin0 _ [(Vb false)] (Vb false) rfl rfl (abe (rok_one d6 0 b1 4 (Vb false) rfl krf krf) agr) rfl ?_
 exact ⟨(by first | rfl | (simp; done) | (simp; omega)), d6.kp⟩
 refine ck (qn (sr (adr d5 [(Vb false)] 4 (fun b => (Vp (some ⟨b, 0, none⟩))) rfl rfl krf fun a1 j7 e4 => aib e4 0 a1 0 [(Vb false)] 4 (Vb false) [blk a1 [(Vb false)] 4, blk b1 [(Vb false)] 4] rfl (zaj (zad _) nbe) krf krf rfl krf rfl fun j8 d7 => nq (cs (cs ?_)))))
 refine cr (wp 1 (bi hr fun a0 e5 hr => aat 154 #[] [(str s_0), (str ([46] : Str))] _ ent154 krf krf (K_L_strings_SplitSeq e5 (hG.hp0 d7)) ?_))
 rintro _ e6 ⟨a7, a8, a9, rfl, d8⟩
 have e7 : Hp w [] [blk a7 [(str a0.1)] 9, blk a8 [(str a0.2.1)] 9, blk a9 [(Vi .i64 a0.2.2)] 3, blk a1 [(Vb false)] 4, blk b1 [(Vb false)] 4] e6 := Hp.callK (L1 := []) (L2 := [blk a1 [(Vb false)] 4, blk b1 [(Vb false)] 4]) d7 d8; clear d8
 refine nq (ce (c_rangeFunc e7 227 [(Vp (some ⟨a7, 0, none⟩)), (Vp (some ⟨a8, 0, none⟩)), (Vp (some ⟨a9, 0, none⟩))] krf ent227 fun b0 a2 a4 b8 e8 e9 f0 f1 f2 => bi hr fun a3 f3 hr => ?_))
 have f4 : Hp w [] [blk a9 [(Vi .i64 a0.2.2)] 3, ahc a2 0 a4, dfr b0, blk a7 [(str a0.1)] 9, blk a8 [(str a0.2.1)] 9, blk a1 [(Vb false)] 4, blk b1 [(Vb false)] 4] b8 := f2.front 4 _ rfl
 have f5 : Hp w [] [blk a8 [(str a0.2.1)] 9, blk a9 [(Vi .i64 a0.2.2)] 3, ahc a2 0 a4, dfr b0, blk a7 [(str a0.1)] 9, blk a1 [(Vb false)] 4, blk b1 [(Vb false)] 4] b8 := f4.front 4 _ rfl
 have f6 : Hp w [] [blk a7 [(str a0.1)] 9, blk a8 [(str a0.2.1)] 9, blk a9 [(Vi .i64 a0.2.2)] 3, ahc a2 0 a4, dfr b0, blk a1 [(Vb false)] 4, blk b1 [(Vb false)] 4] b8 := f5.front 4 _ rfl
 have f7 : Hp w [] [blk b1 [(Vb false)] 4, blk a7 [(str a0.1)] 9, blk a8 [(str a0.2.1)] 9, blk a9 [(Vi .i64 a0.2.2)] 3, ahc a2 0 a4, dfr b0, blk a1 [(Vb false)] 4] b8 := f6.front 6 _ rfl
 have f8 : Hp w [] [blk a1 [(Vb false)] 4, blk b1 [(Vb false)] 4, blk a7 [(str a0.1)] 9, blk a8 [(str a0.2.1)] 9, blk a9 [(Vi .i64 a0.2.2)] 3, ahc a2 0 a4, dfr b0] b8 := f7.front 6 _ rfl
 have c1 : Hp w [] [ahc a2 0 a4, blk a1 [(Vb false)] 4, blk b1 [(Vb false)] 4, blk a7 [(str a0.1)] 9, blk a8 [(str a0.2.1)] 9, blk a9 [(Vi .i64 a0.2.2)] 3, dfr b0] b8 := f8.front 5 _ rfl
 have HY30 : ∀  (b3 : Str) (b5 : Bool) (b2 : Bool) (w_ : World), Hp b8 (abh [ahc a2 0 a4, blk a1 [(Vb false)] 4, blk b1 [(Vb false)] 4, blk a7 [(str a0.1)] 9, blk a8 [(str a0.2.1)] 9, blk a9 [(Vi .i64 a0.2.2)] 3]) [ahc a2 0 a4, blk a1 [(Vb b5)] 4, blk b1 [(Vb b2)] 4] w_ → ∀ (yr : (Nat × Bool × Bool)), aen fu b3 b5 b2 = some yr → YR prog a2 [(str b3)] w_ fun v f9 => v = Vb (decide (yr.1 = 0)) ∧ Hp w_ (abh [ahc a2 0 a4, blk a1 [(Vb b5)] 4, blk b1 [(Vb b2)] 4]) [ahc a2 yr.1 a4, blk a1 [(Vb yr.2.1)] 4, blk b1 [(Vb yr.2.2)] 4] f9 := by
  intro b3 b5 b2 c7 c4 yr hyr
  have hH0_ := Hp.callK (L1 := [ahc a2 0 a4, blk a1 [(Vb false)] 4, blk b1 [(Vb false)] 4, blk a7 [(str a0.1)] 9, blk a8 [(str a0.2.1)] 9, blk a9 [(Vi .i64 a0.2.2)] 3]) (L2 := [dfr b0]) c1 c4
  have hG0_ := hG; replace hG := hG.hp0 hH0_
  have hS_ := Hp.highs hH0_ hG0_ (fun _ h => absurd h (by simp)) 3 rfl
  unfold aen at hyr
  refine yr_intro (Hp.hand (L1 := [ahc a2 0 a4, blk a1 [(Vb b5)] 4, blk b1 [(Vb b2)] 4]) (L2 := []) (by simpa using c4)) 0 rfl e8 e9 f0 f1 rfl ?_
  have hH : Hp c7 (abh [ahc a2 0 a4, blk a1 [(Vb b5)] 4, blk b1 [(Vb b2)] 4]) [ahc a2 0 a4, blk a1 [(Vb b5)] 4, blk b1 [(Vb b2)] 4] c7 := Hp.hand (L1 := [ahc a2 0 a4, blk a1 [(Vb b5)] 4, blk b1 [(Vb b2)] 4]) (L2 := []) (by simpa using c4)
  clear hH0_ c4
  refine cr (wp 1 (wl (asg_next hH 0 rfl fun j9 c2 => ce (cs (bi hyr fun g0 a6 hyr => age c2 [2, 3, 4, 38] [(38, (Vb g0))] ?_ ?_)))))
  refine cr (wp 3 (wd a6 (fun g1 a6 => ?_) (fun g1 a6 => ?_)))
  refine wp 17 (wl (ql ?_))
  obtain rfl := oi a6
  exact je (Hp.front (Hp.front (Hp.front c2 2 _ rfl) 2 _ rfl) 2 _ rfl).kp
  refine wp 4 (wd a6 (fun g2 a6 => ?_) (fun g2 a6 => ?_))
  refine wp 12 (wl (ql ?_))
  obtain rfl := oi a6
  exact je (Hp.front (Hp.front (Hp.front c2 2 _ rfl) 2 _ rfl) 2 _ rfl).kp
  refine wp 1 (gy 26 (gi a6 fun g3 a6 => abi b3 .i64 (0 : Int) underlying9 krf krf g3 (gy 26 (acx (at_ b3 (0 : Int)) (45 : UInt8) krf krf (wp 1 (wd a6 (fun g4 a6 => ?_) (fun g4 a6 => ?_)))))))
  refine wp 7 (wl (ql ?_))
  obtain rfl := oi a6
  exact je (Hp.front (Hp.front (Hp.front c2 2 _ rfl) 2 _ rfl) 2 _ rfl).kp
  refine wp 3 (gy 31 (gi a6 fun g5 a6 => adk (b3.length : Int) (1 : Int) krf krf g5 (gy 31 (gi a6 fun g6 a6 => abi b3 .i64 ((b3.length : Int) - (1 : Int)) underlying9 krf krf g6 (gy 31 (acx (at_ b3 ((b3.length : Int) - (1 : Int))) (45 : UInt8) krf krf (wp 1 ?_)))))))
  refine wl (ql ?_)
  obtain rfl := oi a6
  exact je (Hp.front (Hp.front (Hp.front c2 2 _ rfl) 2 _ rfl) 2 _ rfl).kp
  intro k0 G d9
  refine cb hyr (fun g7 hyr => ?_) (fun g7 hyr => ?_)
  refine sr (aib d9 2 b1 0 [(Vb b2)] 4 (Vb false) [lbusy a2 a4, blk a1 [(Vb b5)] 4, blk b1 [(Vb false)] 4] rfl (zaj (zad _) nbe) krf krf rfl krf rfl fun k1 g8 => nq (ct (st (bt_ ?_))))
  obtain rfl := oi hyr
  refine rnd_ret g8 0 rfl fun k2 g9 => ?_
  exact ⟨(by first | rfl | (simp; done) | (simp; omega)), (Hp.front (Hp.front (Hp.front g9 2 _ rfl) 2 _ rfl) 2 _ rfl).kp⟩
  refine ck (qn (sr (wp 3 (nq (ce (lpG (σ := Nat × Int × Bool) [2, 3, 4, 40, 41] (fun ⟨b9, b6, b7⟩ => [(41, (Vi .i64 b6))]) (fun ⟨b9, b6, b7⟩ w' => Hp c7 (abh [ahc a2 0 a4, blk a1 [(Vb b5)] 4, blk b1 [(Vb b2)] 4]) [lbusy a2 a4, blk a1 [(Vb b7)] 4, blk b1 [(Vb b2)] 4] w' ∧ acg fu b3 b2 b9 b6 b7 = some yr) (fun ⟨b9, b6, b7⟩ => b9) (fu, (0 : Int), b5) (by exact ⟨(Hp.front (Hp.front (Hp.front d9 2 _ rfl) 2 _ rfl) 2 _ rfl).kp, hyr⟩) ?_))))))
  rintro ⟨_ | b9, b6, b7⟩ k3 G ⟨c5, a5⟩
  · exact nzz a5
  rw [acg.eq_2] at a5
  refine sr (wp 1 (nq (cs (cd a5 (fun h0 a5 => ?_) (fun h0 a5 => ?_)))))
  refine ck (qn (cs (ce (sr (wp 2 (nq (cs ?_)))))))
  refine cr (wp 2 (gi a5 fun h1 a5 => abi b3 .i64 b6 underlying9 krf krf h1 (wp 1 (nq (cs (bi a5 fun h2 b4 a5 => age c5 [2, 3, 4, 6, 40, 41, 58] [(58, (Vb h2))] ?_ ?_))))))
  refine cr (wp 1 (bi b4 fun k4 h3 b4 => wc ent155 c5 (aqk h3 (hG.hp c5 hS_)) fun k5 c8 => wp 1 (wb b4 (fun h4 b4 => ?_) (fun h4 b4 => ?_))))
  refine wp 1 (gy 50 (bi b4 fun k6 h5 b4 => wc ent153 c8 (ame h5 (hG.hp c8 hS_)) fun k7 e0 => wp 2 (wb b4 (fun h6 b4 => ?_) (fun h6 b4 => ?_))))
  refine wp 1 (gy 55 (afp (at_ b3 b6) (45 : UInt8) krf krf (wp 1 (wl (ql ?_)))))
  obtain rfl := oi b4
  exact je (Hp.front (Hp.front (Hp.front e0 2 _ rfl) 2 _ rfl) 2 _ rfl).kp
  refine wp 3 (wl (ql ?_))
  obtain rfl := oi b4
  exact je (Hp.front (Hp.front (Hp.front e0 2 _ rfl) 2 _ rfl) 2 _ rfl).kp
  refine wp 8 (wl (ql ?_))
  obtain rfl := oi b4
  exact je (Hp.front (Hp.front (Hp.front c8 2 _ rfl) 2 _ rfl) 2 _ rfl).kp
  intro k8 G c3
  refine cb a5 (fun h7 a5 => ?_) (fun h7 a5 => ?_)
  refine sr (aib c3 2 b1 0 [(Vb b2)] 4 (Vb false) [lbusy a2 a4, blk a1 [(Vb b7)] 4, blk b1 [(Vb false)] 4] rfl (zaj (zad _) nbe) krf krf rfl krf rfl fun k9 h8 => nq (ct (st (bt_ (st (adg ?_))))))
  refine bt_ (bt_ ?_)
  obtain rfl := oi a5
  refine rnd_ret h8 0 rfl fun l0 i0 => ?_
  exact ⟨(by first | rfl | (simp; done) | (simp; omega)), (Hp.front (Hp.front (Hp.front i0 2 _ rfl) 2 _ rfl) 2 _ rfl).kp⟩
  refine ck (qn (cr (abs c3 1 a1 0 [(Vb b7)] 4 (Vb b7) rfl rfl krf krf (wb a5 (fun i1 a5 => ?_) (fun i1 a5 => ?_)))))
  refine wp 4 (aib c3 1 a1 0 [(Vb b7)] 4 (Vb true) [lbusy a2 a4, blk a1 [(Vb true)] 4, blk b1 [(Vb b2)] 4] rfl (zaj (zad _) nbe) krf krf rfl krf rfl fun l1 i2 => wl (bn (qn (cr (gi a5 fun i3 a5 => aae b6 (1 : Int) krf krf i3 (wp 1 (wl ?_)))))))
  refine ql ?_
  exact ⟨(b9, b6 + (1 : Int), true), _, rfl, by kernel_rfl, ⟨(Hp.front (Hp.front (Hp.front i2 2 _ rfl) 2 _ rfl) 2 _ rfl).kp, a5⟩, zad _⟩
  refine wp 1 (gy 60 (bi a5 fun c9 i4 a5 => wc ent153 c3 (ame i4 (hG.hp c3 hS_)) fun l2 i5 => wp 2 (aib i5 1 a1 0 [(Vb b7)] 4 (Vb (!c9)) [lbusy a2 a4, blk a1 [(Vb (!c9))] 4, blk b1 [(Vb b2)] 4] rfl (zaj (zad _) nbe) krf krf rfl krf rfl fun l3 i6 => wl (bn (qn (cr ?_))))))
  refine gi a5 fun i7 a5 => aae b6 (1 : Int) krf krf i7 (wp 1 (wl (ql ?_)))
  exact ⟨(b9, b6 + (1 : Int), (!c9)), _, rfl, by kernel_rfl, ⟨(Hp.front (Hp.front (Hp.front i6 2 _ rfl) 2 _ rfl) 2 _ rfl).kp, a5⟩, zad _⟩
  refine abq (abp (aby (abr (bn ?_))))
  obtain rfl := oi a5
  refine rnd_normal c5 0 rfl fun l4 i9 => ?_
  exact ⟨(by first | rfl | (simp; done) | (simp; omega)), (Hp.front (Hp.front (Hp.front i9 2 _ rfl) 2 _ rfl) 2 _ rfl).kp⟩
 refine CR.mono (alm a2 a4 a1 b1 a7 a8 a9 f3 (hG.hp0 c1) (c1.hand (L1 := [ahc a2 0 a4, blk a1 [(Vb false)] 4, blk b1 [(Vb false)] 4, blk a7 [(str a0.1)] 9, blk a8 [(str a0.2.1)] 9, blk a9 [(Vi .i64 a0.2.2)] 3]) (L2 := [dfr b0])) (c1.highs hG (fun _ h => absurd h (by simp)) 6 rfl) HY30) ?_
 rintro _ e1 ⟨rfl, e2⟩
 have j0 : Hp w [] [blk a1 [(Vb a3.1)] 4, blk b1 [(Vb a3.2.1)] 4, blk a7 [(str a0.1)] 9, blk a8 [(str a3.2.2.1)] 9, blk a9 [(Vi .i64 a0.2.2)] 3, ahc a2 a3.2.2.2 a4, dfr b0] e1 := Hp.callK (L1 := [ahc a2 0 a4, blk a1 [(Vb false)] 4, blk b1 [(Vb false)] 4, blk a7 [(str a0.1)] 9, blk a8 [(str a0.2.1)] 9, blk a9 [(Vi .i64 a0.2.2)] 3]) (L2 := [dfr b0]) c1 e2; clear e2
 have j1 : Hp w [] [ahc a2 a3.2.2.2 a4, blk a1 [(Vb a3.1)] 4, blk b1 [(Vb a3.2.1)] 4, blk a7 [(str a0.1)] 9, blk a8 [(str a3.2.2.1)] 9, blk a9 [(Vi .i64 a0.2.2)] 3, dfr b0] e1 := j0.front 5 _ rfl
 refine ⟨a3.2.2.2, [blk a1 [(Vb a3.1)] 4, blk b1 [(Vb a3.2.1)] 4, blk a7 [(str a0.1)] 9, blk a8 [(str a3.2.2.1)] 9, blk a9 [(Vi .i64 a0.2.2)] 3, dfr b0], j1, ?_⟩
 intro l5 d0
 by_cases d1 : a3.2.2.2 = 0
 replace hr := ift d1 hr
 refine rg0 d1 (bn (qn (sr (abs d0 0 a1 0 [(Vb a3.1)] 4 (Vb a3.1) rfl rfl krf krf (aib d0 1 b1 0 [(Vb a3.2.1)] 4 (Vb a3.1) [blk a1 [(Vb a3.1)] 4, blk b1 [(Vb a3.1)] 4, blk a7 [(str a0.1)] 9, blk a8 [(str a3.2.2.1)] 9, blk a9 [(Vi .i64 a0.2.2)] 3, dfr b0] rfl (zaj (zad _) nbe) krf krf rfl krf rfl fun l6 j2 => nq (ct ?_))))))
 obtain rfl := oi hr
 refine m_fin1 j2 5 b0 rfl _ [(Vb a3.1)] (Vb a3.1) rfl rfl (fun j3 d2 => (abe (rok_one d2 1 b1 4 (Vb a3.1) rfl krf krf) agr)) rfl fun j3 d2 => ?_
 exact ⟨(by first | rfl | (simp; done) | (simp; omega)), d2.kp⟩
 replace hr := ifn d1 hr
 by_cases d3 : a3.2.2.2 = 1
 replace hr := ift d3 hr
 refine rg1 d3 (ct (bt_ (st ?_)))
 obtain rfl := oi hr
 refine m_fin1 d0 5 b0 rfl _ [(Vb a3.2.1)] (Vb a3.2.1) rfl rfl (fun j4 d4 => (abe (rok_one d4 1 b1 4 (Vb a3.2.1) rfl krf krf) agr)) rfl fun j4 d4 => ?_
 exact ⟨(by first | rfl | (simp; done) | (simp; omega)), d4.kp⟩
 replace hr := ifn d3 hr
 exact nzz hr
theorem ahy {fu : Nat} {s_0 : Str} {w : World} {r : (Str × Bool)} (hr : agq fu s_0 = some r) (hG : Gl w) : CR prog 34 [(str s_0)] w fun v w' => v = (zak #[(str r.1), (Vb r.2)]) ∧ Hp w [] [] w' := by
 have hH := Hp.refl w
 refine enter (k := 43) func34 rfl rfl nbe ?_
 unfold agq at hr
 refine sr (wp 2 (nq (cs (bi hr fun v9 a0 hr => age hH [0, 2, 3, 21] [(21, (Vb v9))] ?_ ?_))))
 refine cr (wp 3 (wd a0 (fun a6 a0 => ?_) (fun a6 a0 => ?_)))
 refine wp 1 (gy 9 (gi a0 fun a7 a0 => abi s_0 .i64 (0 : Int) underlying9 krf krf a7 (gy 9 (acx (at_ s_0 (0 : Int)) (91 : UInt8) krf krf (wp 1 (wd a0 (fun a8 a0 => ?_) (fun a8 a0 => ?_)))))))
 refine wp 3 (gy 14 (gi a0 fun a9 a0 => adk (s_0.length : Int) (1 : Int) krf krf a9 (gy 14 (gi a0 fun b0 a0 => abi s_0 .i64 ((s_0.length : Int) - (1 : Int)) underlying9 krf krf b0 (gy 14 (acx (at_ s_0 ((s_0.length : Int) - (1 : Int))) (93 : UInt8) krf krf (wp 1 ?_)))))))
 refine wl (ql ?_)
 obtain rfl := oi a0
 exact je hH.kp
 refine wp 7 (wl (ql ?_))
 obtain rfl := oi a0
 exact je hH.kp
 refine wp 12 (wl (ql ?_))
 obtain rfl := oi a0
 exact je hH.kp
 intro c4 G a1
 refine cb hr (fun b1 hr => ?_) (fun b1 hr => ?_)
 refine sr (wp 3 (gi hr fun b2 hr => adk (s_0.length : Int) (1 : Int) krf krf b2 (gi hr fun b3 hr => alo s_0 .i64 .i64 (1 : Int) ((s_0.length : Int) - (1 : Int)) underlying9 krf krf krf b3 (bi hr fun a4 b4 hr => wc ent85 a1 (K_L_address_groups b4 (hG.hp0 a1)) fun c5 a5 => wp 5 ?_))))
 refine nq (cs (sr (wp 2 (nq (cb hr (fun b5 hr => ?_) (fun b5 hr => ?_))))))
 refine sr (wp 2 (nq (ct (st (st ?_)))))
 obtain rfl := oi hr
 exact rv a5.kp
 refine ck (qn (sr (wp 1 (gi hr fun b6 hr => adf ([91] : Str) a4.1 krf krf b6 (gi hr fun b7 hr => adf (([91] : Str) ++ a4.1) ([93] : Str) krf krf b7 (wp 2 ?_))))))
 refine nq (ct (st ?_))
 obtain rfl := oi hr
 exact rv a5.kp
 refine ck (qn (cs (sr (wp 1 (bi hr fun c6 b8 hr => wc ent86 a1 (K_L_address_numbers b8 (hG.hp0 a1)) fun c7 a2 => nq (cb hr (fun b9 hr => ?_) (fun b9 hr => ?_)))))))
 refine sr (wp 3 (nq (ct (st ?_))))
 obtain rfl := oi hr
 exact rv a2.kp
 refine ck (qn (cs (sr (wp 1 (bi hr fun c8 c0 hr => wc ent87 a2 (K_L_address_named c0 (hG.hp0 a2)) fun c9 a3 => nq (cb hr (fun c1 hr => ?_) (fun c1 hr => ?_)))))))
 refine sr (wp 1 (bi hr fun d0 c2 hr => wc ent67 a3 (adu c2 (hG.hp0 a3)) fun d1 c3 => wp 2 (nq (ct (st ?_)))))
 obtain rfl := oi hr
 exact rv c3.kp
 refine ck (qn (sr (wp 2 (nq (ct ?_)))))
 obtain rfl := oi hr
 exact rv a3.kp
open List renaming drop → zam, flatMap → zai, length_take → zah
theorem ent34 : Wk.Enters prog 34 := ⟨f34, _, func34, rfl, krf⟩
theorem ent92 : Wk.Enters prog 92 := ⟨f92, _, func92, rfl, krf⟩
theorem ent103 : Wk.Enters prog 103 := ⟨f103, _, func103, rfl, krf⟩
theorem ent158 : Wk.Enters prog 158 := ⟨f158, _, func158, rfl, krf⟩
theorem ent163 : Wk.Enters prog 163 := ⟨f163, _, func163, rfl, krf⟩
theorem ent164 : Wk.Enters prog 164 := ⟨f164, _, func164, rfl, krf⟩
theorem ent198 : Wk.Enters prog 198 := ⟨f198, _, func198, rfl, krf⟩
theorem ent234 : Wk.Enters prog 234 := ⟨f234, _, func234, rfl, krf⟩
theorem ent235 : Wk.Enters prog 235 := ⟨f235, _, func235, rfl, krf⟩
theorem arb {fu : Nat} {a3 : (Str × Int)} {a2 : (Str × Str × Str × Int × (List PQ) × (List PQ))} (a8 : Nat) (a9 : Nat) (b0 : Option Nat) (a4 : Option Addr) (a5 : Nat) (b1 : Option Nat) (a6 : Option Addr) (a7 : Nat) {w : World} {r : (Int × UInt8 × (Str × Int) × (Str × Str × Str × Int × (List PQ) × (List PQ)))} (hr : akz fu a3 a2 = some r) (hG : Gl w) (hM : Hp w (abh [blk a8 [(str a3.1), (Vi .i64 a3.2)] 99, blk a9 [(str a2.1), (str a2.2.1), (str a2.2.2.1), (Vi .i64 a2.2.2.2.1), (Vs a4 a2.2.2.2.2.1.length a5), (Vs a6 a2.2.2.2.2.2.length a7)] 36, rwt aaa 65 3 b0 a4 a5 a2.2.2.2.2.1, rwt aaa 65 3 b1 a6 a7 a2.2.2.2.2.2]) [blk a8 [(str a3.1), (Vi .i64 a3.2)] 99, blk a9 [(str a2.1), (str a2.2.1), (str a2.2.2.1), (Vi .i64 a2.2.2.2.1), (Vs a4 a2.2.2.2.2.1.length a5), (Vs a6 a2.2.2.2.2.2.length a7)] 36, rwt aaa 65 3 b0 a4 a5 a2.2.2.2.2.1, rwt aaa 65 3 b1 a6 a7 a2.2.2.2.2.2] w) (hS : ∀ b ∈ abh [blk a8 [(str a3.1), (Vi .i64 a3.2)] 99, blk a9 [(str a2.1), (str a2.2.1), (str a2.2.2.1), (Vi .i64 a2.2.2.2.1), (Vs a4 a2.2.2.2.2.1.length a5), (Vs a6 a2.2.2.2.2.2.length a7)] 36, rwt aaa 65 3 b0 a4 a5 a2.2.2.2.2.1, rwt aaa 65 3 b1 a6 a7 a2.2.2.2.2.2], 9 ≤ b) : CR prog 207 [(Vp (some ⟨a8, 0, none⟩)), (Vp (some ⟨a9, 0, none⟩))] w fun v w' => ∃ (o0 : Option Nat), ∃ (a0 : Option Addr), ∃ (cap0 : Nat), ∃ (o1 : Option Nat), ∃ (a1 : Option Addr), ∃ (cap1 : Nat), v = (zak #[(Vi .i64 r.1), (bt r.2.1)]) ∧ Hp w (abh [blk a8 [(str a3.1), (Vi .i64 a3.2)] 99, blk a9 [(str a2.1), (str a2.2.1), (str a2.2.2.1), (Vi .i64 a2.2.2.2.1), (Vs a4 a2.2.2.2.2.1.length a5), (Vs a6 a2.2.2.2.2.2.length a7)] 36, rwt aaa 65 3 b0 a4 a5 a2.2.2.2.2.1, rwt aaa 65 3 b1 a6 a7 a2.2.2.2.2.2]) [blk a8 [(str r.2.2.1.1), (Vi .i64 r.2.2.1.2)] 99, blk a9 [(str r.2.2.2.1), (str r.2.2.2.2.1), (str r.2.2.2.2.2.1), (Vi .i64 r.2.2.2.2.2.2.1), (Vs a0 r.2.2.2.2.2.2.2.1.length cap0), (Vs a1 r.2.2.2.2.2.2.2.2.length cap1)] 36, rwt aaa 65 3 o0 a0 cap0 r.2.2.2.2.2.2.2.1, rwt aaa 65 3 o1 a1 cap1 r.2.2.2.2.2.2.2.2] w' := by
 have hH : Hp w (abh [blk a8 (Zz8 a3.1 a3.2) 99, blk a9 (Zz2 a2.1 a2.2.1 a2.2.2.1 a2.2.2.2.1 a4 a2.2.2.2.2.1.length a5 a6 a2.2.2.2.2.2.length a7) 36, rwt aaa 65 3 b0 a4 a5 a2.2.2.2.2.1, rwt aaa 65 3 b1 a6 a7 a2.2.2.2.2.2]) [blk a8 (Zz8 a3.1 a3.2) 99, blk a9 (Zz2 a2.1 a2.2.1 a2.2.2.1 a2.2.2.2.1 a4 a2.2.2.2.2.1.length a5 a6 a2.2.2.2.2.2.length a7) 36, rwt aaa 65 3 b0 a4 a5 a2.2.2.2.2.1, rwt aaa 65 3 b1 a6 a7 a2.2.2.2.2.2] w := hM
 refine enter (k := 197) func207 rfl rfl nbe ?_
 unfold akz at hr
 refine sr (wp 2 (nq (bi hr fun d3 b3 hr => cut (σ := (Int × Str)) [0, 1, 4, 5] (fun b2 => []) (fun b2 w' => Hp w (abh [blk a8 (Zz8 a3.1 a3.2) 99, blk a9 (Zz2 a2.1 a2.2.1 a2.2.2.1 a2.2.2.2.1 a4 a2.2.2.2.2.1.length a5 a6 a2.2.2.2.2.2.length a7) 36, rwt aaa 65 3 b0 a4 a5 a2.2.2.2.2.1, rwt aaa 65 3 b1 a6 a7 a2.2.2.2.2.2]) [blk a8 (Zz8 a3.1 b2.1) 99, blk a9 (Zz2 a2.1 b2.2 a2.2.2.1 a2.2.2.2.1 a4 a2.2.2.2.2.1.length a5 a6 a2.2.2.2.2.2.length a7) 36, rwt aaa 65 3 b0 a4 a5 a2.2.2.2.2.1, rwt aaa 65 3 b1 a6 a7 a2.2.2.2.2.2] w' ∧ b2 = d3) ?_ ?_)))
 refine cs (aeh 9 (fun j_ w_ w_' => aay [9, 10, 11] (fun w' => w'.heap[a8]? = some (.cells (Zz8 a3.1 a3.2).toArray 99 (0, 0))) j_ w_ w_' ∧ True) (Zz51) (fun _ _ => ⟨aay.same, trivial⟩) krf krf hH rfl (ade (aam adb)) fun d4 c5 => rp 5 [0, 1, 2, 3] (aal (Zz59) 4 20 (str a3.1) [9, 10, 11] (fun _ _ _ h => h.1) _ rfl rfl krf krf krf krf krf rfl (aba rfl (by intro w hS_; exact (aga a8 0 (Zz8 a3.1 a3.2) 99 (str a3.1) hS_ rfl krf krf))) (by exact c5.blkAt 0 rfl) (rp 1 [5, 6, 7] (aal (Zz64) 8 24 (Vi .i64 a3.2) [9, 10, 11] (fun _ _ _ h => h.1) _ rfl rfl krf krf krf krf krf rfl (aba rfl (by intro w hS_; exact (aga a8 1 (Zz8 a3.1 a3.2) 99 (Vi .i64 a3.2) hS_ rfl krf krf))) (by exact c5.blkAt 0 rfl) (adn krf (gi b3 fun d5 b3 => ahd a3.1 .i64 a3.2 underlying9 krf krf d5 (aat 144 #[] [(str (zam (zac a3.2) a3.1)), (bt (64 : UInt8))] _ ent144 krf krf (amx (zam (zac a3.2) a3.1) (64 : UInt8) d4) ?_)))))))
 rintro _ g9 ⟨rfl, c7⟩
 have b7 := c5.call c7; clear c7
 refine wp 1 (nq (sr (wp 2 (nq (cd b3 (fun d6 b3 => ?_) (fun d6 b3 => ?_))))))
 refine sr (wp 3 (abs b7 0 a8 1 (Zz8 a3.1 a3.2) 99 (Vi .i64 a3.2) rfl rfl krf krf (wp 1 (gi b3 fun d7 b3 => aae a3.2 (ixb (· == (64 : UInt8)) (zam (zac a3.2) a3.1)) krf krf d7 (wp 1 (nq ?_))))))
 refine cs (sr (wp 2 (bi b3 fun h0 d8 b3 => aat 234 #[] [(Vp (some ⟨a8, 0, none⟩)), (Vi .i64 (a3.2 + (ixb (· == (64 : UInt8)) (zam (zac a3.2) a3.1)))), (Vi .i64 (0 : Int))] _ ent234 krf krf (ana a8 d8 (hG.hp b7 hS) (b7.hand (L1 := (Zz40 a8 a3.1 a3.2)) (L2 := [blk a9 (Zz2 a2.1 a2.2.1 a2.2.2.1 a2.2.2.2.1 a4 a2.2.2.2.2.1.length a5 a6 a2.2.2.2.2.2.length a7) 36, rwt aaa 65 3 b0 a4 a5 a2.2.2.2.2.1, rwt aaa 65 3 b1 a6 a7 a2.2.2.2.2.2])) (b7.highs hG hS 1 rfl)) ?_)))
 rintro _ d9 ⟨rfl, c8⟩
 have e0 : Hp w (abh [blk a8 (Zz8 a3.1 a3.2) 99, blk a9 (Zz2 a2.1 a2.2.1 a2.2.2.1 a2.2.2.2.1 a4 a2.2.2.2.2.1.length a5 a6 a2.2.2.2.2.2.length a7) 36, rwt aaa 65 3 b0 a4 a5 a2.2.2.2.2.1, rwt aaa 65 3 b1 a6 a7 a2.2.2.2.2.2]) [blk a8 (Zz8 a3.1 a3.2) 99, blk a9 (Zz2 a2.1 a2.2.1 a2.2.2.1 a2.2.2.2.1 a4 a2.2.2.2.2.1.length a5 a6 a2.2.2.2.2.2.length a7) 36, rwt aaa 65 3 b0 a4 a5 a2.2.2.2.2.1, rwt aaa 65 3 b1 a6 a7 a2.2.2.2.2.2] d9 := Hp.callK (L1 := (Zz40 a8 a3.1 a3.2)) (L2 := [blk a9 (Zz2 a2.1 a2.2.1 a2.2.2.1 a2.2.2.2.1 a4 a2.2.2.2.2.1.length a5 a6 a2.2.2.2.2.2.length a7) 36, rwt aaa 65 3 b0 a4 a5 a2.2.2.2.2.1, rwt aaa 65 3 b1 a6 a7 a2.2.2.2.2.2]) b7 c8; clear c8
 refine wp 5 (nq (sr (wp 1 (nq (cb b3 (fun e1 b3 => ?_) (fun e1 b3 => ?_))))))
 exact nzz b3
 refine ck (qn (cs (sr (wp 2 (nq (cd b3 (fun e2 b3 => ?_) (fun e2 b3 => ?_)))))))
 exact nzz b3
 refine ck (qn (cs (gi b3 fun e3 b3 => bi b3 fun c0 e4 b3 => aeh 13 (fun j_ w_ w_' => aay [11, 12, 13, 14, 15] (fun w' => w'.heap[a8]? = some (.cells (Zz8 a3.1 a3.2).toArray 99 (0, 0))) j_ w_ w_' ∧ True) (Zz61) (fun _ _ => ⟨aay.same, trivial⟩) krf krf e0 rfl (ade (aam adb)) fun h1 c1 => rp 8 [0, 1, 2, 3, 4] (aal [true, true, true, true, true, true, false, false, false, false, false, false, false, false, false, false] 5 60 (str a3.1) [11, 12, 13, 14, 15] (fun _ _ _ h => h.1) _ rfl rfl krf krf krf krf krf rfl (aba rfl (by intro w hS_; exact (aga a8 0 (Zz8 a3.1 a3.2) 99 (str a3.1) hS_ rfl krf krf))) (by exact c1.blkAt 0 rfl) (rp 4 [6, 7, 8] (aal [true, true, true, true, true, true, true, true, true, true, false, false, false, false, false, false] 9 64 (Vi .i64 a3.2) [11, 12, 13, 14, 15] (fun _ _ _ h => h.1) _ rfl rfl krf krf krf krf krf rfl (aba rfl (by intro w hS_; exact (aga a8 1 (Zz8 a3.1 a3.2) 99 (Vi .i64 a3.2) hS_ rfl krf krf))) (by exact c1.blkAt 0 rfl) ?_))))))
 refine rp 2 [10] (rt 11 (str (sub a3.1 a3.2 (a3.2 + (ixb (· == (64 : UInt8)) (zam (zac a3.2) a3.1))))) rfl rfl (aba rfl (by intro w hS_; exact (x_slice a3.1 .i64 .i64 a3.2 (a3.2 + (ixb (· == (64 : UInt8)) (zam (zac a3.2) a3.1))) underlying9 krf krf krf e3))) (ro 12 rfl (wc ent235 c1 (aqc e4 (hG.hp c1 hS)) fun h2 e5 => wl (abu (by exact ⟨aay.out rfl, trivial⟩) (adn krf (wp 2 (aib e5 1 a9 1 (Zz2 a2.1 a2.2.1 a2.2.2.1 a2.2.2.2.1 a4 a2.2.2.2.2.1.length a5 a6 a2.2.2.2.2.2.length a7) 36 (str c0) [blk a8 (Zz8 a3.1 a3.2) 99, blk a9 (Zz2 a2.1 c0 a2.2.2.1 a2.2.2.2.1 a4 a2.2.2.2.2.1.length a5 a6 a2.2.2.2.2.2.length a7) 36, rwt aaa 65 3 b0 a4 a5 a2.2.2.2.2.1, rwt aaa 65 3 b1 a6 a7 a2.2.2.2.2.2] rfl (zaj (zad _) nbe) krf krf rfl krf rfl fun h3 e6 => wl ?_)))))))
 refine qn (cr (wp 2 (gi b3 fun e7 b3 => aae (a3.2 + (ixb (· == (64 : UInt8)) (zam (zac a3.2) a3.1))) (1 : Int) krf krf e7 (wp 2 (aib e6 0 a8 1 (Zz8 a3.1 a3.2) 99 (Vi .i64 ((a3.2 + (ixb (· == (64 : UInt8)) (zam (zac a3.2) a3.1))) + (1 : Int))) [blk a8 [(str a3.1), (Vi .i64 ((a3.2 + (ixb (· == (64 : UInt8)) (zam (zac a3.2) a3.1))) + (1 : Int)))] 99, blk a9 (Zz2 a2.1 c0 a2.2.2.1 a2.2.2.2.1 a4 a2.2.2.2.2.1.length a5 a6 a2.2.2.2.2.2.length a7) 36, rwt aaa 65 3 b0 a4 a5 a2.2.2.2.2.1, rwt aaa 65 3 b1 a6 a7 a2.2.2.2.2.2] rfl (zaj (zad _) nbe) krf krf rfl krf rfl fun h4 e8 => wl (ql ?_))))))
 obtain rfl := oi b3
 exact ⟨((a3.2 + (ixb (· == (64 : UInt8)) (zam (zac a3.2) a3.1))) + (1 : Int), c0), _, rfl, by kernel_rfl, (Hp.front (Hp.front (Hp.front (Hp.front e8 3 _ rfl) 3 _ rfl) 3 _ rfl) 3 _ rfl).kp, rfl⟩
 refine ck (ql ?_)
 obtain rfl := oi b3
 exact ⟨(a3.2, a2.2.1), _, rfl, by kernel_rfl, (Hp.front (Hp.front (Hp.front (Hp.front b7 3 _ rfl) 3 _ rfl) 3 _ rfl) 3 _ rfl).kp, rfl⟩
 rintro b2 h5 G ⟨c2, rfl⟩
 refine sr (wp 3 (abs c2 0 a8 1 (Zz8 a3.1 b2.1) 99 (Vi .i64 b2.1) rfl rfl krf krf (wp 1 (nq (sr (wp 3 ?_))))))
 refine ant c2 0 a8 0 1 (Zz8 a3.1 b2.1) [(str a3.1)] 99 rfl rfl rfl krf krf krf (wp 1 (bi hr fun b5 e9 hr => wc ent158 c2 (ais e9 (hG.hp c2 hS)) fun h6 c3 => wp 1 (nq (cs (sr ?_)))))
 refine wp 1 (bi hr fun h7 f0 hr => aat 90 #[] [(Vp (some ⟨a8, 0, none⟩)), (bt (91 : UInt8))] _ ent90 krf krf (act a8 f0 (hG.hp c3 hS) (c3.hand (L1 := (Zz40 a8 a3.1 b2.1)) (L2 := [blk a9 (Zz2 a2.1 b2.2 a2.2.2.1 a2.2.2.2.1 a4 a2.2.2.2.2.1.length a5 a6 a2.2.2.2.2.2.length a7) 36, rwt aaa 65 3 b0 a4 a5 a2.2.2.2.2.1, rwt aaa 65 3 b1 a6 a7 a2.2.2.2.2.2])) (c3.highs hG hS 1 rfl)) ?_)
 rintro _ f1 ⟨rfl, c9⟩
 have c6 : Hp w (abh [blk a8 (Zz8 a3.1 a3.2) 99, blk a9 (Zz2 a2.1 a2.2.1 a2.2.2.1 a2.2.2.2.1 a4 a2.2.2.2.2.1.length a5 a6 a2.2.2.2.2.2.length a7) 36, rwt aaa 65 3 b0 a4 a5 a2.2.2.2.2.1, rwt aaa 65 3 b1 a6 a7 a2.2.2.2.2.2]) [blk a8 (Zz8 a3.1 b2.1) 99, blk a9 (Zz2 a2.1 b2.2 a2.2.2.1 a2.2.2.2.1 a4 a2.2.2.2.2.1.length a5 a6 a2.2.2.2.2.2.length a7) 36, rwt aaa 65 3 b0 a4 a5 a2.2.2.2.2.1, rwt aaa 65 3 b1 a6 a7 a2.2.2.2.2.2] f1 := Hp.callK (L1 := (Zz40 a8 a3.1 b2.1)) (L2 := [blk a9 (Zz2 a2.1 b2.2 a2.2.2.1 a2.2.2.2.1 a4 a2.2.2.2.2.1.length a5 a6 a2.2.2.2.2.2.length a7) 36, rwt aaa 65 3 b0 a4 a5 a2.2.2.2.2.1, rwt aaa 65 3 b1 a6 a7 a2.2.2.2.2.2]) c3 c9; clear c9
 refine nq (cb hr (fun f2 hr => ?_) (fun f2 hr => ?_))
 exact nzz hr
 refine ck (qn (sr (wp 4 (abs c6 0 a8 0 (Zz8 a3.1 b2.1) 99 (str a3.1) rfl rfl krf krf (wp 2 (gi hr fun f3 hr => alo a3.1 .i64 .i64 b2.1 b5 underlying9 krf krf krf f3 (bi hr fun b6 f4 hr => ?_)))))))
 refine wc ent34 c6 (ahy f4 (hG.hp c6 hS)) fun h8 f5 => wp 5 (nq (cs (sr (wp 2 (nq (cb hr (fun f6 hr => ?_) (fun f6 hr => ?_)))))))
 exact nzz hr
 refine ck (qn (sr (wp 6 (aib f5 1 a9 2 (Zz2 a2.1 b2.2 a2.2.2.1 a2.2.2.2.1 a4 a2.2.2.2.2.1.length a5 a6 a2.2.2.2.2.2.length a7) 36 (str b6.1) [blk a8 (Zz8 a3.1 b2.1) 99, blk a9 (Zz2 a2.1 b2.2 b6.1 a2.2.2.2.1 a4 a2.2.2.2.2.1.length a5 a6 a2.2.2.2.2.2.length a7) 36, rwt aaa 65 3 b0 a4 a5 a2.2.2.2.2.1, rwt aaa 65 3 b1 a6 a7 a2.2.2.2.2.2] rfl (zaj (zad _) nbe) krf krf rfl krf rfl fun h9 f7 => wp 2 (aib f7 0 a8 1 (Zz8 a3.1 b2.1) 99 (Vi .i64 b5) [blk a8 (Zz8 a3.1 b5) 99, blk a9 (Zz2 a2.1 b2.2 b6.1 a2.2.2.2.1 a4 a2.2.2.2.2.1.length a5 a6 a2.2.2.2.2.2.length a7) 36, rwt aaa 65 3 b0 a4 a5 a2.2.2.2.2.1, rwt aaa 65 3 b1 a6 a7 a2.2.2.2.2.2] rfl (zaj (zad _) nbe) krf krf rfl krf rfl fun i0 c4 => nq ?_)))))
 refine cs (sr (wp 1 (bi hr fun i1 f8 hr => aat 90 #[] [(Vp (some ⟨a8, 0, none⟩)), (bt (58 : UInt8))] _ ent90 krf krf (act a8 f8 (hG.hp c4 hS) (c4.hand (L1 := (Zz40 a8 a3.1 b5)) (L2 := [blk a9 (Zz2 a2.1 b2.2 b6.1 a2.2.2.2.1 a4 a2.2.2.2.2.1.length a5 a6 a2.2.2.2.2.2.length a7) 36, rwt aaa 65 3 b0 a4 a5 a2.2.2.2.2.1, rwt aaa 65 3 b1 a6 a7 a2.2.2.2.2.2])) (c4.highs hG hS 1 rfl)) ?_)))
 rintro _ f9 ⟨rfl, d0⟩
 have b8 : Hp w (abh [blk a8 (Zz8 a3.1 a3.2) 99, blk a9 (Zz2 a2.1 a2.2.1 a2.2.2.1 a2.2.2.2.1 a4 a2.2.2.2.2.1.length a5 a6 a2.2.2.2.2.2.length a7) 36, rwt aaa 65 3 b0 a4 a5 a2.2.2.2.2.1, rwt aaa 65 3 b1 a6 a7 a2.2.2.2.2.2]) [blk a8 (Zz8 a3.1 b5) 99, blk a9 (Zz2 a2.1 b2.2 b6.1 a2.2.2.2.1 a4 a2.2.2.2.2.1.length a5 a6 a2.2.2.2.2.2.length a7) 36, rwt aaa 65 3 b0 a4 a5 a2.2.2.2.2.1, rwt aaa 65 3 b1 a6 a7 a2.2.2.2.2.2] f9 := Hp.callK (L1 := (Zz40 a8 a3.1 b5)) (L2 := [blk a9 (Zz2 a2.1 b2.2 b6.1 a2.2.2.2.1 a4 a2.2.2.2.2.1.length a5 a6 a2.2.2.2.2.2.length a7) 36, rwt aaa 65 3 b0 a4 a5 a2.2.2.2.2.1, rwt aaa 65 3 b1 a6 a7 a2.2.2.2.2.2]) c4 d0; clear d0
 refine nq (cb hr (fun g0 hr => ?_) (fun g0 hr => ?_))
 exact nzz hr
 refine ck (qn (cs (bi hr fun i2 b4 hr => age b8 [0, 4, 5, 192] [(192, (Vb false))] ?_ ?_)))
 refine cr (wp 1 (bi b4 fun i3 g1 b4 => aat 89 #[] (Zz45 a8) _ ent89 krf krf (agn a8 g1 (hG.hp b8 hS) (b8.hand (L1 := (Zz40 a8 a3.1 b5)) (L2 := [blk a9 (Zz2 a2.1 b2.2 b6.1 a2.2.2.2.1 a4 a2.2.2.2.2.1.length a5 a6 a2.2.2.2.2.2.length a7) 36, rwt aaa 65 3 b0 a4 a5 a2.2.2.2.2.1, rwt aaa 65 3 b1 a6 a7 a2.2.2.2.2.2])) (b8.highs hG hS 1 rfl)) ?_))
 rintro _ g2 ⟨rfl, d1⟩
 have b9 : Hp w (abh [blk a8 (Zz8 a3.1 a3.2) 99, blk a9 (Zz2 a2.1 a2.2.1 a2.2.2.1 a2.2.2.2.1 a4 a2.2.2.2.2.1.length a5 a6 a2.2.2.2.2.2.length a7) 36, rwt aaa 65 3 b0 a4 a5 a2.2.2.2.2.1, rwt aaa 65 3 b1 a6 a7 a2.2.2.2.2.2]) [blk a8 (Zz8 a3.1 b5) 99, blk a9 (Zz2 a2.1 b2.2 b6.1 a2.2.2.2.1 a4 a2.2.2.2.2.1.length a5 a6 a2.2.2.2.2.2.length a7) 36, rwt aaa 65 3 b0 a4 a5 a2.2.2.2.2.1, rwt aaa 65 3 b1 a6 a7 a2.2.2.2.2.2] g2 := Hp.callK (L1 := (Zz40 a8 a3.1 b5)) (L2 := [blk a9 (Zz2 a2.1 b2.2 b6.1 a2.2.2.2.1 a4 a2.2.2.2.2.1.length a5 a6 a2.2.2.2.2.2.length a7) 36, rwt aaa 65 3 b0 a4 a5 a2.2.2.2.2.1, rwt aaa 65 3 b1 a6 a7 a2.2.2.2.2.2]) b8 d1; clear d1
 refine wp 1 (wb b4 (fun g3 b4 => ?_) (fun g3 b4 => ?_))
 refine wp 1 (gy 183 (bi b4 fun i4 g4 b4 => aat 90 #[] [(Vp (some ⟨a8, 0, none⟩)), (bt (59 : UInt8))] _ ent90 krf krf (act a8 g4 (hG.hp b9 hS) (b9.hand (L1 := (Zz40 a8 a3.1 b5)) (L2 := [blk a9 (Zz2 a2.1 b2.2 b6.1 a2.2.2.2.1 a4 a2.2.2.2.2.1.length a5 a6 a2.2.2.2.2.2.length a7) 36, rwt aaa 65 3 b0 a4 a5 a2.2.2.2.2.1, rwt aaa 65 3 b1 a6 a7 a2.2.2.2.2.2])) (b9.highs hG hS 1 rfl)) ?_))
 rintro _ g5 ⟨rfl, d2⟩
 have g6 : Hp w (abh [blk a8 (Zz8 a3.1 a3.2) 99, blk a9 (Zz2 a2.1 a2.2.1 a2.2.2.1 a2.2.2.2.1 a4 a2.2.2.2.2.1.length a5 a6 a2.2.2.2.2.2.length a7) 36, rwt aaa 65 3 b0 a4 a5 a2.2.2.2.2.1, rwt aaa 65 3 b1 a6 a7 a2.2.2.2.2.2]) [blk a8 (Zz8 a3.1 b5) 99, blk a9 (Zz2 a2.1 b2.2 b6.1 a2.2.2.2.1 a4 a2.2.2.2.2.1.length a5 a6 a2.2.2.2.2.2.length a7) 36, rwt aaa 65 3 b0 a4 a5 a2.2.2.2.2.1, rwt aaa 65 3 b1 a6 a7 a2.2.2.2.2.2] g5 := Hp.callK (L1 := (Zz40 a8 a3.1 b5)) (L2 := [blk a9 (Zz2 a2.1 b2.2 b6.1 a2.2.2.2.1 a4 a2.2.2.2.2.1.length a5 a6 a2.2.2.2.2.2.length a7) 36, rwt aaa 65 3 b0 a4 a5 a2.2.2.2.2.1, rwt aaa 65 3 b1 a6 a7 a2.2.2.2.2.2]) b9 d2; clear d2
 refine wp 2 (wb b4 (fun g7 b4 => ?_) (fun g7 b4 => ?_))
 exact nzz b4
 refine wp 4 (wl (ql ?_))
 obtain rfl := oi b4
 exact je (Hp.front (Hp.front (Hp.front (Hp.front g6 3 _ rfl) 3 _ rfl) 3 _ rfl) 3 _ rfl).kp
 refine wp 9 (wl (ql ?_))
 obtain rfl := oi b4
 exact je (Hp.front (Hp.front (Hp.front (Hp.front b9 3 _ rfl) 3 _ rfl) 3 _ rfl) 3 _ rfl).kp
 intro i5 G g8
 refine arp krf (ck (qn (sr (wp 2 (nq (ct ?_))))))
 obtain rfl := oi hr
 refine r_two (Vi .i64 (0 : Int)) (bt (0 : UInt8)) rfl krf krf ?_
 exact ⟨b0, a4, a5, b1, a6, a7, (by first | rfl | (simp; done) | (simp; omega)), (Hp.front (Hp.front (Hp.front (Hp.front g8 3 _ rfl) 3 _ rfl) 3 _ rfl) 3 _ rfl).kp⟩
theorem K_L_address_holds_1 {fu : Nat} {a0 : PQ} {a1 : Str} (a2 : Nat) {w : World} {r : Bool} (hr : ajz fu a0 a1 = some r) (hG : Gl w) (hM : Hp w (abh [blk a2 [(str a1)] 9]) [blk a2 [(str a1)] 9] w) (hS : ∀ b ∈ abh [blk a2 [(str a1)] 9], 9 ≤ b) : CR prog 164 [(zan #[(str a0.1), (str a0.2.1), (Vb a0.2.2)]), (Vp (some ⟨a2, 0, none⟩))] w fun v w' => v = (Vb r) ∧ Hp w (abh [blk a2 [(str a1)] 9]) [blk a2 [(str a1)] 9] w' := by
 have hH : Hp w (abh [blk a2 [(str a1)] 9]) [blk a2 [(str a1)] 9] w := hM
 refine enter (k := 8) func164 rfl rfl nbe ?_
 unfold ajz at hr
 refine sr (adr hH (Zz42 a0.1 a0.2.1 a0.2.2) 65 (fun b => (Vp (some ⟨b, 0, none⟩))) rfl rfl krf fun b1 w2 a3 => wp 1 (nq (sr (wp 1 (abs a3 0 b1 0 (Zz42 a0.1 a0.2.1 a0.2.2) 65 (str a0.1) rfl rfl krf krf ?_)))))
 refine abs a3 1 a2 0 [(str a1)] 9 (str a1) rfl rfl krf krf (wp 2 (nq (ct ?_)))
 obtain rfl := oi hr
 refine r_one (Vb (decide (a0.1 = a1))) rfl krf ?_
 exact ⟨(by first | rfl | (simp; done) | (simp; omega)), (Hp.front a3 1 _ rfl).kp⟩
theorem aku {fu : Nat} {s_0 : List PQ} {a3 : Str} (a5 : Option Addr) (a6 : Nat) (a7 : Nat) (a1 : Nat) {w : World} {r : Int} (hr : adq fu s_0 a3 = some r) (hG : Gl w) (b3 : a6 = s_0.length) (a8 : Rd w a5 (zai aaa s_0)) (c5 : a6 ≤ a7) (hM : Hp w (abh [blk a1 [(str a3)] 9]) [blk a1 [(str a3)] 9] w) (hS : ∀ b ∈ abh [blk a1 [(str a3)] 9], 9 ≤ b) (a9 : zai aaa s_0 ≠ [] → ∀ p, a5 = some p → p.block ∉ abh [blk a1 [(str a3)] 9]) : CR prog 198 [(Vs a5 a6 a7), (zap (.func 164) #[] #[(Vp (some ⟨a1, 0, none⟩))])] w fun v w' => v = (Vi .i64 r) ∧ Hp w (abh [blk a1 [(str a3)] 9]) [blk a1 [(str a3)] 9] w' := by
 subst b3
 have hH : Hp w (abh [blk a1 [(str a3)] 9]) [blk a1 [(str a3)] 9] w := hM
 refine enter (k := 19) func198 rfl rfl nbe ?_
 unfold adq at hr
 refine sr (wp 1 (nq (bi hr fun b4 b5 hr => cut1 hH b4 [4] (fun b6 => []) ?_ ?_)))
 refine sr (wp 3 (nq (ce (lpS (fun b0 a2 => aax fu s_0 a3 b0 a2) (0 : Int) hH b5 [0, 1, 4, 7, 8] (fun a2 => [(8, (Vi .i64 a2))]) (fun _ => rfl) ?_))))
 rintro b0 a2 c6 G a4 a0
 rw [aax.eq_2] at a0
 refine sr (wp 1 (nq (cs (cd a0 (fun b7 a0 => ?_) (fun b7 a0 => ?_)))))
 refine ck (qn (cs (ce (sr (wp 2 (nq (cs ?_)))))))
 refine cr (wp 3 (gi a0 fun b8 a0 => ahl a5 s_0.length a7 65 3 .i64 a2 underlying22 krf krf krf s_0 rfl b8 (a8.hpN a4 a9) aab (by decide) (gi a0 fun b9 a0 => ajh a5 aaa s_0 3 a2 aab (a8.hpN a4 a9) (Zz0 s_0 a2) b9 krf krf krf krf (by decide) (bi a0 fun c7 c0 a0 => aat 164 #[(Vp (some ⟨a1, 0, none⟩))] [(zan #[(str ((el s_0 a2).1)), (str ((el s_0 a2).2.1)), (Vb ((el s_0 a2).2.2))]), (Vp (some ⟨a1, 0, none⟩))] _ ent164 krf krf (K_L_address_holds_1 a1 c0 (hG.hp a4 hS) (a4.hand (L1 := [blk a1 [(str a3)] 9]) (L2 := [])) (a4.highs hG hS 1 rfl)) ?_))))
 rintro _ c1 ⟨rfl, b1⟩
 have b2 : Hp w (abh [blk a1 [(str a3)] 9]) [blk a1 [(str a3)] 9] c1 := Hp.callK (L1 := [blk a1 [(str a3)] 9]) (L2 := []) a4 b1; clear b1
 refine nq (cb a0 (fun c2 a0 => ?_) (fun c2 a0 => ?_))
 refine sr (wp 2 (nq (ct (bt_ (st (adg (bt_ ?_)))))))
 refine adg ?_
 obtain rfl := oi a0
 obtain rfl := oi hr
 refine r_one (Vi .i64 a2) rfl krf ?_
 exact ⟨(by first | rfl | (simp; done) | (simp; omega)), b2.kp⟩
 exact ck (bn (qn (cr (gi a0 fun c3 a0 => aae a2 (1 : Int) krf krf c3 (wp 1 (wl (ql (le' (a2 + (1 : Int)) b2.kp a0))))))))
 refine abq (abp (aby (abr (ql ?_))))
 obtain rfl := oi a0
 exact je1 rfl a4.kp
 rintro b6 c8 G c4 rfl
 refine sr (wp 1 (nq (ct ?_)))
 obtain rfl := oi hr
 refine r_one (Vi .i64 (-1 : Int)) rfl krf ?_
 exact ⟨(by first | rfl | (simp; done) | (simp; omega)), c4.kp⟩
theorem aka {fu : Nat} {s_0 : List PQ} {a1 : Str} (a2 : Option Addr) (a4 : Nat) (a3 : Nat) (a0 : Nat) {w : World} {r : Bool} (hr : adh fu s_0 a1 = some r) (hG : Gl w) (a8 : a4 = s_0.length) (a5 : Rd w a2 (zai aaa s_0)) (a9 : a4 ≤ a3) (hM : Hp w (abh [blk a0 [(str a1)] 9]) [blk a0 [(str a1)] 9] w) (hS : ∀ b ∈ abh [blk a0 [(str a1)] 9], 9 ≤ b) (a6 : zai aaa s_0 ≠ [] → ∀ p, a2 = some p → p.block ∉ abh [blk a0 [(str a1)] 9]) : CR prog 163 [(Vs a2 a4 a3), (zap (.func 164) #[] #[(Vp (some ⟨a0, 0, none⟩))])] w fun v w' => v = (Vb r) ∧ Hp w (abh [blk a0 [(str a1)] 9]) [blk a0 [(str a1)] 9] w' := by
 subst a8
 have hH : Hp w (abh [blk a0 [(str a1)] 9]) [blk a0 [(str a1)] 9] w := hM
 refine enter (k := 9) func163 rfl rfl nbe ?_
 unfold adh at hr
 refine sr (wp 1 (nq (sr (wp 2 (bi hr fun y1 b0 hr => aat 198 #[] [(Vs a2 s_0.length a3), (zap (.func 164) #[] #[(Vp (some ⟨a0, 0, none⟩))])] _ ent198 krf krf (aku a2 s_0.length a3 a0 b0 (hG.hp hH hS) rfl (a5.hpN hH a6) a9 (hH.hand (L1 := [blk a0 [(str a1)] 9]) (L2 := [])) (hH.highs hG hS 1 rfl) (hH.apartRd 1 a5 a6 rfl)) ?_)))))
 rintro _ w3 ⟨rfl, a7⟩
 have b1 : Hp w (abh [blk a0 [(str a1)] 9]) [blk a0 [(str a1)] 9] w3 := Hp.callK (L1 := [blk a0 [(str a1)] 9]) (L2 := []) hH a7; clear a7
 refine wp 2 (nq (ct ?_))
 obtain rfl := oi hr
 refine r_one (Vb (decide ((0 : Int) ≤ y1))) rfl krf ?_
 exact ⟨(by first | rfl | (simp; done) | (simp; omega)), b1.kp⟩
theorem aoi {fu : Nat} {a2 : List PQ} {a0 : Str} (a3 : Option Addr) (a5 : Nat) (a4 : Nat) {w : World} {r : Bool} (hr : ain fu a2 a0 = some r) (hG : Gl w) (a8 : a5 = a2.length) (a6 : Rd w a3 (zai aaa a2)) (a9 : a5 ≤ a4) : CR prog 103 [(Vs a3 a5 a4), (str a0)] w fun v w' => v = (Vb r) ∧ Hp w [] [] w' := by
 subst a8
 have hH := Hp.refl w
 refine enter (k := 8) func103 rfl rfl nbe ?_
 unfold ain at hr
 refine sr (adr hH [(str a0)] 9 (fun b => (Vp (some ⟨b, 0, none⟩))) rfl rfl krf fun b1 w2 a1 => wp 1 (nq (sr (wp 2 (bi hr fun y4 b0 hr => ?_)))))
 refine aat 163 #[] [(Vs a3 a2.length a4), (zap (.func 164) #[] #[(Vp (some ⟨b1, 0, none⟩))])] _ ent163 krf krf (aka a3 a2.length a4 b1 b0 (hG.hp0 a1) rfl (a6.hp a1) a9 (a1.hand (L1 := [blk b1 [(str a0)] 9]) (L2 := [])) (a1.highs hG (fun _ h => absurd h (by simp)) 1 rfl) (a1.apartRd 1 a6 (fun _ _ _ h => absurd h (by simp)) rfl)) ?_
 rintro _ w6 ⟨rfl, a7⟩
 have b2 : Hp w [] [blk b1 [(str a0)] 9] w6 := Hp.callK (L1 := [blk b1 [(str a0)] 9]) (L2 := []) a1 a7; clear a7
 refine wp 1 (nq (ct ?_))
 obtain rfl := oi hr
 exact rv b2.kp
theorem K_L_address_room {fu : Nat} {a0 : List PQ} {a5 : Str} (a1 : Option Addr) (a2 : Nat) (a3 : Nat) {w : World} {r : UInt8} (hr : aky fu a0 a5 = some r) (hG : Gl w) (a6 : a2 = a0.length) (a7 : Rd w a1 (zai aaa a0)) (a8 : a2 ≤ a3) : CR prog 92 [(Vs a1 a2 a3), (str a5)] w fun v w' => v = (bt r) ∧ Hp w [] [] w' := by
 subst a6
 have hH := Hp.refl w
 refine enter (k := 11) func92 rfl rfl nbe ?_
 unfold aky at hr
 refine sr (wp 1 (nq (cs (sr (wp 2 (bi hr fun y1 a9 hr => ?_))))))
 refine wc ent103 hH (aoi a1 a0.length a3 a9 (hG.hp0 hH) rfl (a7.hp hH) a8) fun w3 a4 => nq (cb hr (fun h6 hr => ?_) (fun h6 hr => ?_))
 refine sr (wp 1 (nq (ct (st ?_))))
 obtain rfl := oi hr
 exact rv a4.kp
 refine ck (qn (cs (sr (wp 3 (nq (cd hr (fun h7 hr => ?_) (fun h7 hr => ?_)))))))
 refine sr (wp 1 (nq (ct (st ?_))))
 obtain rfl := oi hr
 exact rv a4.kp
 refine ck (qn (sr (wp 1 (nq (ct ?_)))))
 obtain rfl := oi hr
 exact rv a4.kp
theorem arc {fu : Nat} {a1 : (Str × Int)} {a4 : List PQ} {a2 : Int} {b2 : Int} (a3 : Nat) (a7 : Option Nat) (a5 : Option Addr) (a6 : Nat) {w : World} {r : ((List PQ) × Int × UInt8 × (Str × Int))} (hr : ala fu a1 a4 a2 b2 = some r) (hG : Gl w) (hM : Hp w (abh [blk a3 [(str a1.1), (Vi .i64 a1.2)] 99, rwt aaa 65 3 a7 a5 a6 a4]) [blk a3 [(str a1.1), (Vi .i64 a1.2)] 99, rwt aaa 65 3 a7 a5 a6 a4] w) (hS : ∀ b ∈ abh [blk a3 [(str a1.1), (Vi .i64 a1.2)] 99, rwt aaa 65 3 a7 a5 a6 a4], 9 ≤ b) : CR prog 209 [(Vp (some ⟨a3, 0, none⟩)), (Vs a5 a4.length a6), (Vi .i64 a2), (Vi .i64 b2)] w fun v w' => ∃ (o0 : Option Nat), ∃ (a0 : Option Addr), ∃ (cap0 : Nat), v = (zak #[(Vs a0 r.1.length cap0), (Vi .i64 r.2.1), (bt r.2.2.1)]) ∧ Hp w (abh [blk a3 [(str a1.1), (Vi .i64 a1.2)] 99, rwt aaa 65 3 a7 a5 a6 a4]) [blk a3 [(str r.2.2.2.1), (Vi .i64 r.2.2.2.2)] 99, rwt aaa 65 3 o0 a0 cap0 r.1] w' := by
 have hH : Hp w (abh (Zz67 a3 a1.1 a1.2 a7 a5 a6 a4)) (Zz67 a3 a1.1 a1.2 a7 a5 a6 a4) w := hM
 refine enter (k := 128) func209 rfl rfl nbe ?_
 unfold ala at hr
 refine sr (wp 3 (nq (sr (wp 3 (abs hH 0 a3 1 (Zz8 a1.1 a1.2) 99 (Vi .i64 a1.2) rfl rfl krf krf (wp 1 ?_))))))
 refine nq (sr (wp 4 (abs hH 0 a3 0 (Zz8 a1.1 a1.2) 99 (str a1.1) rfl rfl krf krf (wp 2 (gi hr fun g1 hr => alo a1.1 .i64 .i64 a1.2 a2 underlying9 krf krf krf g1 (aat 144 #[] [(str (sub a1.1 a1.2 a2)), (bt (61 : UInt8))] _ ent144 krf krf (amx (sub a1.1 a1.2 a2) (61 : UInt8) w) ?_))))))
 rintro _ w2 ⟨rfl, b8⟩
 have b1 := hH.call b8; clear b8
 refine wp 1 (nq (sr (wp 2 (nq (cs (cs ?_))))))
 refine cr (wp 2 (nq (cd hr (fun h6 hr => ?_) (fun h6 hr => ?_))))
 exact nzz hr
 refine ck (qn (cs (sr (wp 3 (bi hr fun y7 c4 hr => aat 234 #[] [(Vp (some ⟨a3, 0, none⟩)), (Vi .i64 a2), (Vi .i64 b2)] _ ent234 krf krf (ana a3 c4 (hG.hp b1 hS) (b1.hand (L1 := (Zz40 a3 a1.1 a1.2)) (L2 := (Zz10 a7 a5 a6 a4))) (b1.highs hG hS 1 rfl)) ?_)))))
 rintro _ w9 ⟨rfl, b9⟩
 have b3 : Hp w (abh (Zz67 a3 a1.1 a1.2 a7 a5 a6 a4)) (Zz67 a3 a1.1 a1.2 a7 a5 a6 a4) w9 := Hp.callK (L1 := (Zz40 a3 a1.1 a1.2)) (L2 := (Zz10 a7 a5 a6 a4)) b1 b9; clear b9
 refine wp 5 (nq (sr (wp 1 (nq (cb hr (fun c5 hr => ?_) (fun c5 hr => ?_))))))
 exact nzz hr
 refine ck (qn (cs (sr (wp 3 (nq (cd hr (fun c6 hr => ?_) (fun c6 hr => ?_)))))))
 exact nzz hr
 refine ck (qn (sr (wp 4 (abs b3 0 a3 0 (Zz8 a1.1 a1.2) 99 (str a1.1) rfl rfl krf krf (wp 2 (gi hr fun c7 hr => alo a1.1 .i64 .i64 a1.2 a2 underlying9 krf krf krf c7 (bi hr fun e0 c8 hr => ?_)))))))
 refine wc ent235 b3 (aqc c8 (hG.hp b3 hS)) fun e1 c0 => bi hr fun a8 c9 hr => wc ent67 c0 (adu c9 (hG.hp c0 hS)) fun e2 d0 => wp 3 (adr d0 (Zz6) 65 (fun b => (Vp (some ⟨b, 0, none⟩))) rfl rfl krf fun a9 e3 d1 => ahq d1 0 a9 0 (Zz6) (Zz23 a8 a1.1 a1.2 a2) 65 [blk a9 (Zz23 a8 a1.1 a1.2 a2) 65, blk a3 (Zz8 a1.1 a1.2) 99, rwt aaa 65 3 a7 a5 a6 a4] rfl nbe krf krf rfl krf rfl fun e4 d2 => nq (sr ?_))
 refine wp 4 (aib d2 1 a3 1 (Zz8 a1.1 a1.2) 99 (Vi .i64 a2) [blk a9 (Zz23 a8 a1.1 a1.2 a2) 65, blk a3 (Zz8 a1.1 a2) 99, rwt aaa 65 3 a7 a5 a6 a4] rfl (zaj (zad _) nbe) krf krf rfl krf rfl fun e5 b0 => nq (cs (sr (wp 1 (abs b0 0 a9 2 (Zz23 a8 a1.1 a1.2 a2) 65 (Vb (decide ((0 : Int) ≤ (ixb (· == (61 : UInt8)) (sub a1.1 a1.2 a2))))) rfl rfl krf krf (wl ?_))))))
 refine qn (cd hr (fun d3 hr => ?_) (fun d3 hr => ?_))
 exact nzz hr
 refine sr (wp 2 (nq (cd hr (fun d4 hr => ?_) (fun d4 hr => ?_))))
 exact nzz hr
 refine ck (qn (cs (sr (wp 2 (abs b0 0 a9 0 (Zz23 a8 a1.1 a1.2 a2) 65 (str a8) rfl rfl krf krf (bi hr fun d5 d6 hr => wc ent92 b0 (K_L_address_room a5 a4.length a6 d6 (hG.hp b0 hS) rfl (b0.rdrw 2 rfl) (b0.rwcap 2 rfl)) fun e6 c1 => wp 1 ?_))))))
 refine nq (sr (wp 1 (afp d5 (0 : UInt8) krf krf (nq (cn hr (fun d7 hr => ?_) (fun d7 hr => ?_))))))
 exact nzz hr
 refine ck (qn (sr (wp 1 (ant c1 0 a9 0 3 (Zz23 a8 a1.1 a1.2 a2) (Zz23 a8 a1.1 a1.2 a2) 65 rfl rfl rfl krf krf krf (adr c1 (Zz23 a8 a1.1 a1.2 a2) 65 (fun b => (Vs (some ⟨b, 0, none⟩) 1 1)) rfl rfl krf fun b4 e7 c2 => gi hr fun d8 hr => adm c2 3 a7 a5 (some ⟨b4, 0, none⟩) a6 1 65 3 40 a4 ([(a8, ([] : Str), (decide ((0 : Int) ≤ (ixb (· == (61 : UInt8)) (sub a1.1 a1.2 a2)))))] : List PQ) aab rfl underlying22 (by unfold TI; kernel_rfl) (by decide) (by decide) krf (Eq.trans (b := (Vs (some ⟨b4, 0, none⟩) 1 1)) krf (aaj (by first | rfl | (simp; done) | omega | (simp; omega) | (rw [zah]; omega)))) (c2.rdblk 0 rfl) d8 fun c3 b5 b6 d9 b7 => ?_)))))
 replace b7 : Hp w (abh (Zz67 a3 a1.1 a1.2 a7 a5 a6 a4)) [blk b4 (Zz23 a8 a1.1 a1.2 a2) 65, blk a9 (Zz23 a8 a1.1 a1.2 a2) 65, blk a3 (Zz8 a1.1 a2) 99, rwt aaa 65 3 c3 b5 b6 (a4 ++ ([(a8, ([] : Str), (decide ((0 : Int) ≤ (ixb (· == (61 : UInt8)) (sub a1.1 a1.2 a2)))))] : List PQ))] d9 := b7
 refine wp 3 (nq (ct ?_))
 obtain rfl := oi hr
 refine aqp (Vs b5 ((a4 ++ ([(a8, ([] : Str), (decide ((0 : Int) ≤ (ixb (· == (61 : UInt8)) (sub a1.1 a1.2 a2)))))] : List PQ)).length) b6) (Vi .i64 (0 : Int)) (bt (0 : UInt8)) rfl krf krf krf ?_
 exact ⟨c3, b5, b6, (by first | rfl | (simp; done) | (simp; omega)), (Hp.front (Hp.front b7 3 _ rfl) 3 _ rfl).kp⟩
theorem apg {fu : Nat} {a0 : Str} {w : World} {r : Bool} (hr : aje fu a0 = some r) (hG : Gl w) : CR prog 168 [(str a0)] w fun v w' => v = (Vb r) ∧ Hp w [] [] w' := by
 have hH := Hp.refl w
 refine enter (k := 6) func168 rfl rfl nbe ?_
 unfold aje at hr
 refine sr (wp 1 (nq (sr (wp 4 (nq ?_)))))
 refine ct ?_
 obtain rfl := oi hr
 exact rv hH.kp
end Go.Proofs
