/- Of a text of ours what this claim needs. -/
import Derived.Shelf.Strings.Builder1
import Derived.Shelf.Strings.Trim
import Derived.Shelf.Small.Utf8
import Derived.Shelf.Small.Strs
import Derived.Shelf.Small.Wraps
import Derived.Shelf.Strings.BuilderF
import Derived.Shelf.Strings.BuilderK
import Derived.Shelf.Utf8.RuneCount
import Derived.Shelf.Strconv.Atoi
import Derived.Shelf.Strconv.Itoa0
import Derived.Shelf.Strconv.Itoa1
import Derived.Shelf.LaysM
import Derived.Shelf.Strconv.Itoa2
import Derived.Shelf.Strconv.Itoa3
import Derived.Shelf.Strconv.AtoiErrFast
import Derived.Shelf.Strconv.ParseIntEmpty
import Derived.Shelf.Strconv.AtoiFail
import Derived.Shelf.Strconv.Clone
import Derived.Shelf.Strconv.SyntaxError
import Derived.Shelf.LaysC
import Derived.Shelf.Strconv.ToError
import Derived.Shelf.Strconv.Lower
import Derived.Shelf.Strconv.ParseUint10
import Derived.Shelf.Strconv.ParseUint10Empty
import Derived.Shelf.Strconv.ParseUint10Any
import Derived.Shelf.Strconv.ParseInt10
import Derived.Shelf.Strconv.AtoiLong
import Derived.Shelf.Strconv.AtoiInnerAll
import Derived.Shelf.Strconv.RangeError
import Derived.Shelf.Strconv.ToErrorRange
import Derived.Shelf.Strconv.AtoiAll
import Derived.Shelf.Strconv.ErrVarAll
import Derived.Shelf.Strings.Search1
import Derived.Shelf.Strings.Search2
import Derived.Shelf.Strings.Search3
import Derived.Shelf.Strings.Cut
import Derived.Shelf.Strings.Count
import Derived.Shelf.Strings.Shaped
import Derived.Shelf.Strings.Prefix
import Derived.Shelf.Strings.Split
import Derived.Shelf.Strings.SplitShaped
import Derived.Shelf.Unicode.Decode
import Derived.Shelf.Strings.Runes
import Derived.Shelf.Strings.RuneCount
import Derived.Shelf.Strings.AsciiSet
import Derived.Shelf.Strings.Explode
import Derived.Shelf.Unicode.DecodeSlow
import Derived.Shelf.Unicode.DecodeAny
import Derived.Shelf.Unicode.DecodeLast
import Derived.Shelf.Strings.SlTrimAscii
import Derived.Lib.SplitLaws
import Derived.Lib.AppendIntMem
import Derived.Maps.OwnSet
import Derived.DeepKeys4
import Derived.BigCall
import Derived.Test.YtjdpdkdhfnpcgaaGreatDoorZzFnNoteGetTN2
set_option maxHeartbeats 8000000
set_option maxRecDepth 100000
namespace Go.Proofs
open Go.Shelf
def Tryz.lays169_ren : Go.Shelf.Ren := ⟨fun | 169 => 106 | n => n, fun | 70 => 126 | 9 => 9 | 0 => 0 | 72 => 128 | 37 => 22 | 127 => 151 | 3 => 3 | 5 => 5 | n => n, fun | n => n⟩
theorem Tryz.lays169 : Go.Proofs.Lays.n169 Tryz.prog Tryz.lays169_ren := {
  mixed := by kernel_rfl
  f169 := Tryz.func106.trans (congrArg some (by kernel_rfl))
  t0 := Tryz.underlying0
  a0 := Tryz.isAgg0
  z0 := Tryz.sizeOf0
  v0 := Tryz.zeroValue0
  t3 := Tryz.underlying3
  a3 := Tryz.isAgg3
  z3 := Tryz.sizeOf3
  v3 := Tryz.zeroValue3
  t9 := Tryz.underlying9
  a9 := Tryz.isAgg9
  z9 := Tryz.sizeOf9
  v9 := Tryz.zeroValue9
  t37 := Tryz.underlying22
  a37 := Tryz.isAgg22
  z37 := Tryz.sizeOf22
  v37 := Tryz.zeroValue22
  t70 := Tryz.underlying126
  a70 := Tryz.isAgg126
  z70 := Tryz.sizeOf126
  v70 := Tryz.zeroValue126
  t72 := Tryz.underlying128
  a72 := Tryz.isAgg128
  z72 := Tryz.sizeOf128
  v72 := Tryz.zeroValue128
  t127 := Tryz.underlying151
  a127 := Tryz.isAgg151
  z127 := Tryz.sizeOf151
  v127 := Tryz.zeroValue151 }
theorem Tryz.Builder_Extra_169 : Builder.Extra Tryz.prog Tryz.lays169_ren := {
  sizeBuilder := by kernel_rfl
  liesBuilder := by kernel_rfl
  t5 := Tryz.underlying5
  a5 := Tryz.isAgg5
  z5 := Tryz.sizeOf5
  v5 := Tryz.zeroValue5
  infoByte := by kernel_rfl
  cellsByte := by kernel_rfl
  sizeByte := by kernel_rfl
  neB5 := by decide }
def Tryz.lays160_ren : Go.Shelf.Ren := ⟨fun | 160 => 111 | 232 => 142 | 231 => 141 | 227 => 143 | 234 => 145 | 233 => 144 | 236 => 147 | 235 => 146 | 228 => 173 | 271 => 175 | 151 => 174 | 197 => 161 | 120 => 185 | 152 => 184 | 260 => 181 | 137 => 188 | 119 => 189 | 224 => 151 | 225 => 150 | 217 => 149 | 266 => 176 | n => n, fun | 9 => 9 | 4 => 4 | 3 => 3 | 5 => 5 | 117 => 155 | 116 => 154 | 0 => 0 | 124 => 158 | 21 => 21 | 105 => 168 | 46 => 161 | 119 => 194 | 139 => 197 | 138 => 196 | n => n, fun | 3 => 4 | 4 => 5 | n => n⟩
theorem Tryz.lays160 : Go.Proofs.Lays.n160 Tryz.prog Tryz.lays160_ren := {
  mixed := by kernel_rfl
  f119 := Tryz.func189.trans (congrArg some (by kernel_rfl))
  f120 := Tryz.func185.trans (congrArg some (by kernel_rfl))
  f137 := Tryz.func188.trans (congrArg some (by kernel_rfl))
  f151 := Tryz.func174.trans (congrArg some (by kernel_rfl))
  f152 := Tryz.func184.trans (congrArg some (by kernel_rfl))
  f160 := Tryz.func111.trans (congrArg some (by kernel_rfl))
  f197 := Tryz.func161.trans (congrArg some (by kernel_rfl))
  f217 := Tryz.func149.trans (congrArg some (by kernel_rfl))
  f224 := Tryz.func151.trans (congrArg some (by kernel_rfl))
  f225 := Tryz.func150.trans (congrArg some (by kernel_rfl))
  f227 := Tryz.func143.trans (congrArg some (by kernel_rfl))
  f228 := Tryz.func173.trans (congrArg some (by kernel_rfl))
  f231 := Tryz.func141.trans (congrArg some (by kernel_rfl))
  f232 := Tryz.func142.trans (congrArg some (by kernel_rfl))
  f233 := Tryz.func144.trans (congrArg some (by kernel_rfl))
  f234 := Tryz.func145.trans (congrArg some (by kernel_rfl))
  f235 := Tryz.func146.trans (congrArg some (by kernel_rfl))
  f236 := Tryz.func147.trans (congrArg some (by kernel_rfl))
  f260 := Tryz.func181.trans (congrArg some (by kernel_rfl))
  f266 := Tryz.func176.trans (congrArg some (by kernel_rfl))
  f271 := Tryz.func175.trans (congrArg some (by kernel_rfl))
  t0 := Tryz.underlying0
  a0 := Tryz.isAgg0
  z0 := Tryz.sizeOf0
  v0 := Tryz.zeroValue0
  t3 := Tryz.underlying3
  a3 := Tryz.isAgg3
  z3 := Tryz.sizeOf3
  v3 := Tryz.zeroValue3
  t4 := Tryz.underlying4
  a4 := Tryz.isAgg4
  z4 := Tryz.sizeOf4
  v4 := Tryz.zeroValue4
  t5 := Tryz.underlying5
  a5 := Tryz.isAgg5
  z5 := Tryz.sizeOf5
  v5 := Tryz.zeroValue5
  t9 := Tryz.underlying9
  a9 := Tryz.isAgg9
  z9 := Tryz.sizeOf9
  v9 := Tryz.zeroValue9
  t21 := Tryz.underlying21
  a21 := Tryz.isAgg21
  z21 := Tryz.sizeOf21
  v21 := Tryz.zeroValue21
  t46 := Tryz.underlying161
  a46 := Tryz.isAgg161
  z46 := Tryz.sizeOf161
  v46 := Tryz.zeroValue161
  t105 := Tryz.underlying168
  a105 := Tryz.isAgg168
  z105 := Tryz.sizeOf168
  v105 := Tryz.zeroValue168
  t116 := Tryz.underlying154
  a116 := Tryz.isAgg154
  z116 := Tryz.sizeOf154
  t117 := Tryz.underlying155
  a117 := Tryz.isAgg155
  z117 := Tryz.sizeOf155
  v117 := Tryz.zeroValue155
  t119 := Tryz.underlying194
  a119 := Tryz.isAgg194
  z119 := Tryz.sizeOf194
  t124 := Tryz.underlying158
  a124 := Tryz.isAgg158
  z124 := Tryz.sizeOf158
  v124 := Tryz.zeroValue158
  t138 := Tryz.underlying196
  a138 := Tryz.isAgg196
  z138 := Tryz.sizeOf196
  v138 := Tryz.zeroValue196
  t139 := Tryz.underlying197
  a139 := Tryz.isAgg197
  z139 := Tryz.sizeOf197
  v139 := Tryz.zeroValue197
  g3 := by kernel_rfl
  g4 := by kernel_rfl }
open Go.RowKit in
theorem Tryz.Builder_String_any_k (B b : Nat)(l : List UInt8)(w : World)(h : Lib.IsBuilderF 128 5 B b (Lib.byteCells l) w)(hBw : B ≤ w.heap.size) :
    Calls Tryz.prog 106 #[.pointer (some ⟨b, 0, none⟩)] w fun e w' => e = .returned (.string ⟨l.toArray⟩) ∧ (Lib.IsBuilderF 128 5 B b (Lib.byteCells l) w' ∧ Below B w w' ∧ Lib.OthersKept 5 (some b) w w') := Any.Builder_String_any_k Tryz.lays169 Tryz.Builder_Extra_169 B b l w h hBw
def Tryz.laysM171_ren : Go.Shelf.Ren := ⟨fun | 171 => 22 | 243 => 54 | 246 => 102 | 283 => 134 | 284 => 135 | 285 => 136 | 286 => 137 | 129 => 168 | 317 => 167 | 318 => 169 | 319 => 170 | 320 => 171 | 337 => 182 | 338 => 183 | n => n, fun | 3 => 3 | 9 => 9 | 2 => 2 | 4 => 4 | 171 => 145 | 0 => 0 | 53 => 146 | 37 => 22 | 5 => 5 | 173 => 149 | 212 => 172 | 51 => 173 | 20 => 20 | 213 => 174 | 46 => 161 | 232 => 198 | 233 => 199 | n => n, fun | 17 => 1 | 18 => 6 | 19 => 7 | n => n⟩
theorem Tryz.laysM171 : Go.Proofs.LaysM.n171 Tryz.prog Tryz.laysM171_ren := {
  mixed := by kernel_rfl
  f129 := Tryz.func168.trans (congrArg some (by kernel_rfl))
  f171 := Tryz.func22.trans (congrArg some (by kernel_rfl))
  f243 := Tryz.func54.trans (congrArg some (by kernel_rfl))
  f246 := Tryz.func102.trans (congrArg some (by kernel_rfl))
  f283 := Tryz.func134.trans (congrArg some (by kernel_rfl))
  f284 := Tryz.func135.trans (congrArg some (by kernel_rfl))
  f285 := Tryz.func136.trans (congrArg some (by kernel_rfl))
  f286 := Tryz.func137.trans (congrArg some (by kernel_rfl))
  f317 := Tryz.func167.trans (congrArg some (by kernel_rfl))
  f318 := Tryz.func169.trans (congrArg some (by kernel_rfl))
  f319 := Tryz.func170.trans (congrArg some (by kernel_rfl))
  f320 := Tryz.func171.trans (congrArg some (by kernel_rfl))
  f337 := Tryz.func182.trans (congrArg some (by kernel_rfl))
  f338 := Tryz.func183.trans (congrArg some (by kernel_rfl))
  t0 := Tryz.underlying0
  a0 := Tryz.isAgg0
  z0 := Tryz.sizeOf0
  v0 := Tryz.zeroValue0
  t2 := Tryz.underlying2
  a2 := Tryz.isAgg2
  z2 := Tryz.sizeOf2
  v2 := Tryz.zeroValue2
  t3 := Tryz.underlying3
  a3 := Tryz.isAgg3
  z3 := Tryz.sizeOf3
  v3 := Tryz.zeroValue3
  t4 := Tryz.underlying4
  a4 := Tryz.isAgg4
  z4 := Tryz.sizeOf4
  v4 := Tryz.zeroValue4
  t5 := Tryz.underlying5
  a5 := Tryz.isAgg5
  z5 := Tryz.sizeOf5
  v5 := Tryz.zeroValue5
  t9 := Tryz.underlying9
  a9 := Tryz.isAgg9
  z9 := Tryz.sizeOf9
  v9 := Tryz.zeroValue9
  t20 := Tryz.underlying20
  a20 := Tryz.isAgg20
  z20 := Tryz.sizeOf20
  v20 := Tryz.zeroValue20
  t37 := Tryz.underlying22
  a37 := Tryz.isAgg22
  z37 := Tryz.sizeOf22
  v37 := Tryz.zeroValue22
  t46 := Tryz.underlying161
  a46 := Tryz.isAgg161
  z46 := Tryz.sizeOf161
  v46 := Tryz.zeroValue161
  t51 := Tryz.underlying173
  a51 := Tryz.isAgg173
  z51 := Tryz.sizeOf173
  v51 := Tryz.zeroValue173
  t53 := Tryz.underlying146
  a53 := Tryz.isAgg146
  z53 := Tryz.sizeOf146
  v53 := Tryz.zeroValue146
  t171 := Tryz.underlying145
  a171 := Tryz.isAgg145
  z171 := Tryz.sizeOf145
  v171 := Tryz.zeroValue145
  t173 := Tryz.underlying149
  a173 := Tryz.isAgg149
  z173 := Tryz.sizeOf149
  v173 := Tryz.zeroValue149
  t212 := Tryz.underlying172
  a212 := Tryz.isAgg172
  z212 := Tryz.sizeOf172
  v212 := Tryz.zeroValue172
  t213 := Tryz.underlying174
  a213 := Tryz.isAgg174
  z213 := Tryz.sizeOf174
  t232 := Tryz.underlying198
  a232 := Tryz.isAgg198
  z232 := Tryz.sizeOf198
  v232 := Tryz.zeroValue198
  t233 := Tryz.underlying199
  a233 := Tryz.isAgg199
  z233 := Tryz.sizeOf199
  v233 := Tryz.zeroValue199
  g17 := by kernel_rfl
  g18 := by kernel_rfl
  g19 := by kernel_rfl
  i0 := by kernel_rfl
  i2 := by kernel_rfl
  i3 := by kernel_rfl
  i4 := by kernel_rfl
  i5 := by kernel_rfl
  i9 := by kernel_rfl
  i20 := by kernel_rfl
  i37 := by kernel_rfl
  i46 := by kernel_rfl
  i51 := by kernel_rfl
  i53 := by kernel_rfl
  i171 := by kernel_rfl
  i173 := by kernel_rfl
  i212 := by kernel_rfl
  i232 := by kernel_rfl
  i233 := by kernel_rfl
  m17 := by kernel_rfl
  m18 := by kernel_rfl
  m19 := by kernel_rfl }
open Go.RowKit Go.Sort Go.Lib in
theorem Tryz.strconv_Itoa (n : Int) (h0 : -9223372036854775808 ≤ n) (h1 : n ≤ 9223372036854775807) (w : World) (htab : Lib.TabIs Tryz.prog w "internal/strconv.uint64pow10" .u64 Lib.pow10Tab) :
    Calls Tryz.prog 22 #[.int .i64 n] w fun e w' => e = .returned (.string ⟨(Lib.itoa n).toArray⟩) ∧ ∃ k os, w' = grow (w.drewN k) os := Any.strconv_Itoa Tryz.laysM171 n h0 h1 w htab
def Tryz.laysC172_ren : Go.Shelf.Ren := ⟨fun | 172 => 71 | 244 => 117 | 245 => 118 | 247 => 153 | 279 => 154 | 280 => 155 | 281 => 156 | 282 => 157 | 287 => 178 | 316 => 179 | 171 => 22 | 205 => 180 | 321 => 186 | 322 => 187 | 243 => 54 | 246 => 102 | 283 => 134 | 284 => 135 | 285 => 136 | 286 => 137 | 129 => 168 | 317 => 167 | 318 => 169 | 319 => 170 | 320 => 171 | 337 => 182 | 338 => 183 | n => n, fun | 9 => 9 | 3 => 3 | 75 => 90 | 76 => 91 | 4 => 4 | 5 => 5 | 167 => 162 | 37 => 22 | 0 => 0 | 85 => 163 | 2 => 2 | 168 => 165 | 53 => 146 | 175 => 182 | 46 => 161 | 210 => 186 | 127 => 151 | 145 => 193 | 143 => 191 | 21 => 21 | 171 => 145 | 173 => 149 | 212 => 172 | 51 => 173 | 20 => 20 | 213 => 174 | 232 => 198 | 233 => 199 | 80 => 52 | n => n, fun | 15 => 2 | 16 => 3 | 17 => 1 | 18 => 6 | 19 => 7 | n => n⟩
theorem Tryz.laysC172 : Go.Proofs.LaysC.n172 Tryz.prog Tryz.laysC172_ren := {
  mixed := by kernel_rfl
  f129 := Tryz.func168.trans (congrArg some (by kernel_rfl))
  f171 := Tryz.func22.trans (congrArg some (by kernel_rfl))
  f172 := Tryz.func71.trans (congrArg some (by kernel_rfl))
  f205 := Tryz.func180.trans (congrArg some (by kernel_rfl))
  f243 := Tryz.func54.trans (congrArg some (by kernel_rfl))
  f244 := Tryz.func117.trans (congrArg some (by kernel_rfl))
  f245 := Tryz.func118.trans (congrArg some (by kernel_rfl))
  f246 := Tryz.func102.trans (congrArg some (by kernel_rfl))
  f247 := Tryz.func153.trans (congrArg some (by kernel_rfl))
  f279 := Tryz.func154.trans (congrArg some (by kernel_rfl))
  f280 := Tryz.func155.trans (congrArg some (by kernel_rfl))
  f281 := Tryz.func156.trans (congrArg some (by kernel_rfl))
  f282 := Tryz.func157.trans (congrArg some (by kernel_rfl))
  f283 := Tryz.func134.trans (congrArg some (by kernel_rfl))
  f284 := Tryz.func135.trans (congrArg some (by kernel_rfl))
  f285 := Tryz.func136.trans (congrArg some (by kernel_rfl))
  f286 := Tryz.func137.trans (congrArg some (by kernel_rfl))
  f287 := Tryz.func178.trans (congrArg some (by kernel_rfl))
  f316 := Tryz.func179.trans (congrArg some (by kernel_rfl))
  f317 := Tryz.func167.trans (congrArg some (by kernel_rfl))
  f318 := Tryz.func169.trans (congrArg some (by kernel_rfl))
  f319 := Tryz.func170.trans (congrArg some (by kernel_rfl))
  f320 := Tryz.func171.trans (congrArg some (by kernel_rfl))
  f321 := Tryz.func186.trans (congrArg some (by kernel_rfl))
  f322 := Tryz.func187.trans (congrArg some (by kernel_rfl))
  f337 := Tryz.func182.trans (congrArg some (by kernel_rfl))
  f338 := Tryz.func183.trans (congrArg some (by kernel_rfl))
  t0 := Tryz.underlying0
  a0 := Tryz.isAgg0
  z0 := Tryz.sizeOf0
  v0 := Tryz.zeroValue0
  t2 := Tryz.underlying2
  a2 := Tryz.isAgg2
  z2 := Tryz.sizeOf2
  v2 := Tryz.zeroValue2
  t3 := Tryz.underlying3
  a3 := Tryz.isAgg3
  z3 := Tryz.sizeOf3
  v3 := Tryz.zeroValue3
  t4 := Tryz.underlying4
  a4 := Tryz.isAgg4
  z4 := Tryz.sizeOf4
  v4 := Tryz.zeroValue4
  t5 := Tryz.underlying5
  a5 := Tryz.isAgg5
  z5 := Tryz.sizeOf5
  v5 := Tryz.zeroValue5
  t9 := Tryz.underlying9
  a9 := Tryz.isAgg9
  z9 := Tryz.sizeOf9
  v9 := Tryz.zeroValue9
  t20 := Tryz.underlying20
  a20 := Tryz.isAgg20
  z20 := Tryz.sizeOf20
  v20 := Tryz.zeroValue20
  t21 := Tryz.underlying21
  a21 := Tryz.isAgg21
  z21 := Tryz.sizeOf21
  v21 := Tryz.zeroValue21
  t37 := Tryz.underlying22
  a37 := Tryz.isAgg22
  z37 := Tryz.sizeOf22
  v37 := Tryz.zeroValue22
  t46 := Tryz.underlying161
  a46 := Tryz.isAgg161
  z46 := Tryz.sizeOf161
  v46 := Tryz.zeroValue161
  t51 := Tryz.underlying173
  a51 := Tryz.isAgg173
  z51 := Tryz.sizeOf173
  v51 := Tryz.zeroValue173
  t53 := Tryz.underlying146
  a53 := Tryz.isAgg146
  z53 := Tryz.sizeOf146
  v53 := Tryz.zeroValue146
  t75 := Tryz.underlying90
  a75 := Tryz.isAgg90
  z75 := Tryz.sizeOf90
  v75 := Tryz.zeroValue90
  t76 := Tryz.underlying91
  a76 := Tryz.isAgg91
  z76 := Tryz.sizeOf91
  v76 := Tryz.zeroValue91
  t85 := Tryz.underlying163
  a85 := Tryz.isAgg163
  z85 := Tryz.sizeOf163
  v85 := Tryz.zeroValue163
  t127 := Tryz.underlying151
  a127 := Tryz.isAgg151
  z127 := Tryz.sizeOf151
  v127 := Tryz.zeroValue151
  t143 := Tryz.underlying191
  a143 := Tryz.isAgg191
  z143 := Tryz.sizeOf191
  v143 := Tryz.zeroValue191
  t145 := Tryz.underlying193
  a145 := Tryz.isAgg193
  z145 := Tryz.sizeOf193
  v145 := Tryz.zeroValue193
  t167 := Tryz.underlying162
  a167 := Tryz.isAgg162
  z167 := Tryz.sizeOf162
  v167 := Tryz.zeroValue162
  t168 := Tryz.underlying165
  a168 := Tryz.isAgg165
  z168 := Tryz.sizeOf165
  v168 := Tryz.zeroValue165
  t171 := Tryz.underlying145
  a171 := Tryz.isAgg145
  z171 := Tryz.sizeOf145
  v171 := Tryz.zeroValue145
  t173 := Tryz.underlying149
  a173 := Tryz.isAgg149
  z173 := Tryz.sizeOf149
  v173 := Tryz.zeroValue149
  t175 := Tryz.underlying182
  a175 := Tryz.isAgg182
  z175 := Tryz.sizeOf182
  v175 := Tryz.zeroValue182
  t210 := Tryz.underlying186
  a210 := Tryz.isAgg186
  z210 := Tryz.sizeOf186
  v210 := Tryz.zeroValue186
  t212 := Tryz.underlying172
  a212 := Tryz.isAgg172
  z212 := Tryz.sizeOf172
  v212 := Tryz.zeroValue172
  t213 := Tryz.underlying174
  a213 := Tryz.isAgg174
  z213 := Tryz.sizeOf174
  t232 := Tryz.underlying198
  a232 := Tryz.isAgg198
  z232 := Tryz.sizeOf198
  v232 := Tryz.zeroValue198
  t233 := Tryz.underlying199
  a233 := Tryz.isAgg199
  z233 := Tryz.sizeOf199
  v233 := Tryz.zeroValue199
  g15 := by kernel_rfl
  g16 := by kernel_rfl
  g17 := by kernel_rfl
  g18 := by kernel_rfl
  g19 := by kernel_rfl
  t80 := Tryz.underlying52
  a80 := Tryz.isAgg52
  z80 := Tryz.sizeOf52
  v80 := Tryz.zeroValue52
  i0 := by kernel_rfl
  i2 := by kernel_rfl
  i3 := by kernel_rfl
  i4 := by kernel_rfl
  i5 := by kernel_rfl
  i9 := by kernel_rfl
  i20 := by kernel_rfl
  i21 := by kernel_rfl
  i37 := by kernel_rfl
  i46 := by kernel_rfl
  i51 := by kernel_rfl
  i53 := by kernel_rfl
  i75 := by kernel_rfl
  i76 := by kernel_rfl
  i80 := by kernel_rfl
  i85 := by kernel_rfl
  i127 := by kernel_rfl
  i143 := by kernel_rfl
  i145 := by kernel_rfl
  i167 := by kernel_rfl
  i168 := by kernel_rfl
  i171 := by kernel_rfl
  i173 := by kernel_rfl
  i175 := by kernel_rfl
  i210 := by kernel_rfl
  i212 := by kernel_rfl
  i232 := by kernel_rfl
  i233 := by kernel_rfl
  m15 := by kernel_rfl
  m16 := by kernel_rfl
  m17 := by kernel_rfl
  m18 := by kernel_rfl
  m19 := by kernel_rfl
  c0 := by kernel_rfl
  c2 := by kernel_rfl
  c3 := by kernel_rfl
  c4 := by kernel_rfl
  c5 := by kernel_rfl
  c9 := by kernel_rfl
  c20 := by kernel_rfl
  c21 := by kernel_rfl
  c37 := by kernel_rfl
  c46 := by kernel_rfl
  c51 := by kernel_rfl
  c53 := by kernel_rfl
  c75 := by kernel_rfl
  c76 := by kernel_rfl
  c80 := by kernel_rfl
  c85 := by kernel_rfl
  c127 := by kernel_rfl
  c143 := by kernel_rfl
  c145 := by kernel_rfl
  c167 := by kernel_rfl
  c168 := by kernel_rfl
  c171 := by kernel_rfl
  c173 := by kernel_rfl
  c175 := by kernel_rfl
  c210 := by kernel_rfl
  c212 := by kernel_rfl
  c213 := by kernel_rfl
  c232 := by kernel_rfl
  c233 := by kernel_rfl }
open Go.RowKit in
theorem Tryz.strconv_Atoi_ok (s : ByteArray)(hmax : s.size ≤ 9223372036854775806)(v : Int)(h : Lib.atoiAll s.data.toList = .ok v)(w : World) :
    Calls Tryz.prog 71 #[.string s] w fun e w' => e = .returned (.tuple #[.int .i64 v, .nilIface]) ∧ (w' = w ∨ ∃ t, w' = Lib.bytesWorld w 5 t) := Any.strconv_Atoi_ok Tryz.laysC172 s hmax v h w
open Go.RowKit in
theorem Tryz.strconv_Atoi_syntax (s : ByteArray)(hlim : s.size ≤ 281474976710656)(h : match Lib.atoiAll s.data.toList with | .ok _ => False | .range => False | _ => True)(ev : Value)(w : World)(hv : w.cell? ⟨2, 0, none⟩ = some ev)(hev : ev = .nilIface ∨ ∃ te pe, ev = .iface te pe) :
    Calls Tryz.prog 71 #[.string s] w fun e w' => ∃ N, e = .returned (.tuple #[.int .i64 (0), .iface 165 (.pointer (some ⟨N, 0, none⟩))]) ∧ w.heap.size ≤ N ∧ w'.heap[N]? = some (.cells #[.string ⟨#[65, 116, 111, 105]⟩, .string s, ev] 186 (0, 0)) ∧ Below w.heap.size w w' := Any.strconv_Atoi_syntax Tryz.laysC172 s hlim (by revert h; cases Lib.atoiAll s.data.toList <;> intro h <;> first | rfl | exact h.elim) ev w hv hev
open Go.RowKit in
theorem Tryz.strconv_Atoi_range (s : ByteArray)(hlim : s.size ≤ 281474976710656)(h : Lib.atoiAll s.data.toList = .range)(ev : Value)(w : World)(hv : w.cell? ⟨3, 0, none⟩ = some ev)(hev : ev = .nilIface ∨ ∃ te pe, ev = .iface te pe) :
    Calls Tryz.prog 71 #[.string s] w fun e w' => ∃ N, e = .returned (.tuple #[.int .i64 (Lib.atoiSat s.data.toList), .iface 165 (.pointer (some ⟨N, 0, none⟩))]) ∧ w.heap.size ≤ N ∧ w'.heap[N]? = some (.cells #[.string ⟨#[65, 116, 111, 105]⟩, .string s, ev] 186 (0, 0)) ∧ Below w.heap.size w w' := Any.strconv_Atoi_range Tryz.laysC172 s hlim h ev w hv hev
def Tryz.lays145_ren : Go.Shelf.Ren := ⟨fun | 145 => 33 | 220 => 70 | 219 => 116 | 217 => 149 | 225 => 150 | 224 => 151 | 267 => 152 | 266 => 176 | 314 => 177 | n => n, fun | 9 => 9 | 4 => 4 | 59 => 58 | 3 => 3 | 5 => 5 | 46 => 161 | 146 => 180 | 51 => 173 | n => n, fun | 1 => 0 | n => n⟩
theorem Tryz.lays145 : Go.Proofs.Lays.n145 Tryz.prog Tryz.lays145_ren := {
  mixed := by kernel_rfl
  f145 := Tryz.func33.trans (congrArg some (by kernel_rfl))
  f217 := Tryz.func149.trans (congrArg some (by kernel_rfl))
  f219 := Tryz.func116.trans (congrArg some (by kernel_rfl))
  f220 := Tryz.func70.trans (congrArg some (by kernel_rfl))
  f224 := Tryz.func151.trans (congrArg some (by kernel_rfl))
  f225 := Tryz.func150.trans (congrArg some (by kernel_rfl))
  f266 := Tryz.func176.trans (congrArg some (by kernel_rfl))
  f267 := Tryz.func152.trans (congrArg some (by kernel_rfl))
  f314 := Tryz.func177.trans (congrArg some (by kernel_rfl))
  t3 := Tryz.underlying3
  a3 := Tryz.isAgg3
  z3 := Tryz.sizeOf3
  v3 := Tryz.zeroValue3
  t4 := Tryz.underlying4
  a4 := Tryz.isAgg4
  z4 := Tryz.sizeOf4
  v4 := Tryz.zeroValue4
  t5 := Tryz.underlying5
  a5 := Tryz.isAgg5
  z5 := Tryz.sizeOf5
  v5 := Tryz.zeroValue5
  t9 := Tryz.underlying9
  a9 := Tryz.isAgg9
  z9 := Tryz.sizeOf9
  v9 := Tryz.zeroValue9
  t46 := Tryz.underlying161
  a46 := Tryz.isAgg161
  z46 := Tryz.sizeOf161
  v46 := Tryz.zeroValue161
  t51 := Tryz.underlying173
  a51 := Tryz.isAgg173
  z51 := Tryz.sizeOf173
  v51 := Tryz.zeroValue173
  t59 := Tryz.underlying58
  a59 := Tryz.isAgg58
  z59 := Tryz.sizeOf58
  v59 := Tryz.zeroValue58
  t146 := Tryz.underlying180
  a146 := Tryz.isAgg180
  z146 := Tryz.sizeOf180
  v146 := Tryz.zeroValue180
  g1 := by kernel_rfl }
open Go.RowKit Go.Lib in
theorem Tryz.strings_Cut (s sep : ByteArray)(m : Int)(w : World)(hs : s.size<4294967281)(hm : w.cell? ⟨0, 0, none⟩ = some (.int .i64 m)) :
    Calls Tryz.prog 33 #[.string s, .string sep] w fun e w' => e = .returned (.tuple #[.string ⟨(Lib.cut s.data.toList sep.data.toList).1.toArray⟩, .string ⟨(Lib.cut s.data.toList sep.data.toList).2.1.toArray⟩, .bool (Lib.cut s.data.toList sep.data.toList).2.2]) ∧ ∃ n, w' = w.drewN n := Any.strings_Cut Tryz.lays145 s sep m w hs hm
def Tryz.lays99_ren : Go.Shelf.Ren := ⟨fun | 99 => 103 | 206 => 138 | n => n, fun | 9 => 9 | 4 => 4 | 3 => 3 | n => n, fun | n => n⟩
theorem Tryz.lays99 : Go.Proofs.Lays.n99 Tryz.prog Tryz.lays99_ren := {
  mixed := by kernel_rfl
  f99 := Tryz.func103.trans (congrArg some (by kernel_rfl))
  f206 := Tryz.func138.trans (congrArg some (by kernel_rfl))
  t3 := Tryz.underlying3
  a3 := Tryz.isAgg3
  z3 := Tryz.sizeOf3
  v3 := Tryz.zeroValue3
  t4 := Tryz.underlying4
  a4 := Tryz.isAgg4
  z4 := Tryz.sizeOf4
  v4 := Tryz.zeroValue4
  t9 := Tryz.underlying9
  a9 := Tryz.isAgg9
  z9 := Tryz.sizeOf9
  v9 := Tryz.zeroValue9 }
open Go.RowKit Go.Lib in
theorem Tryz.strings_HasPrefix (s p : ByteArray)(w : World) :
    Calls Tryz.prog 103 #[.string s, .string p] w fun e w' => e = .returned (.bool (Lib.hasPrefix s.data.toList p.data.toList)) ∧ w' = w := Any.strings_HasPrefix Tryz.lays99 s p w
def Tryz.lays146_ren : Go.Shelf.Ren := ⟨fun | 146 => 36 | 221 => 73 | 268 => 122 | 138 => 123 | 143 => 124 | 195 => 160 | 197 => 161 | 218 => 162 | 219 => 116 | 260 => 181 | 217 => 149 | 225 => 150 | 224 => 151 | 267 => 152 | 266 => 176 | 314 => 177 | n => n, fun | 9 => 9 | 31 => 26 | 3 => 3 | 4 => 4 | 0 => 0 | 105 => 168 | 21 => 21 | 5 => 5 | 46 => 161 | 119 => 194 | 139 => 197 | 138 => 196 | 146 => 180 | 51 => 173 | n => n, fun | 1 => 0 | 3 => 4 | 4 => 5 | n => n⟩
theorem Tryz.lays146 : Go.Proofs.Lays.n146 Tryz.prog Tryz.lays146_ren := {
  mixed := by kernel_rfl
  f138 := Tryz.func123.trans (congrArg some (by kernel_rfl))
  f143 := Tryz.func124.trans (congrArg some (by kernel_rfl))
  f146 := Tryz.func36.trans (congrArg some (by kernel_rfl))
  f195 := Tryz.func160.trans (congrArg some (by kernel_rfl))
  f197 := Tryz.func161.trans (congrArg some (by kernel_rfl))
  f217 := Tryz.func149.trans (congrArg some (by kernel_rfl))
  f218 := Tryz.func162.trans (congrArg some (by kernel_rfl))
  f219 := Tryz.func116.trans (congrArg some (by kernel_rfl))
  f221 := Tryz.func73.trans (congrArg some (by kernel_rfl))
  f224 := Tryz.func151.trans (congrArg some (by kernel_rfl))
  f225 := Tryz.func150.trans (congrArg some (by kernel_rfl))
  f260 := Tryz.func181.trans (congrArg some (by kernel_rfl))
  f266 := Tryz.func176.trans (congrArg some (by kernel_rfl))
  f267 := Tryz.func152.trans (congrArg some (by kernel_rfl))
  f268 := Tryz.func122.trans (congrArg some (by kernel_rfl))
  f314 := Tryz.func177.trans (congrArg some (by kernel_rfl))
  t0 := Tryz.underlying0
  a0 := Tryz.isAgg0
  z0 := Tryz.sizeOf0
  v0 := Tryz.zeroValue0
  t3 := Tryz.underlying3
  a3 := Tryz.isAgg3
  z3 := Tryz.sizeOf3
  v3 := Tryz.zeroValue3
  t4 := Tryz.underlying4
  a4 := Tryz.isAgg4
  z4 := Tryz.sizeOf4
  v4 := Tryz.zeroValue4
  t5 := Tryz.underlying5
  a5 := Tryz.isAgg5
  z5 := Tryz.sizeOf5
  v5 := Tryz.zeroValue5
  t9 := Tryz.underlying9
  a9 := Tryz.isAgg9
  z9 := Tryz.sizeOf9
  v9 := Tryz.zeroValue9
  t21 := Tryz.underlying21
  a21 := Tryz.isAgg21
  z21 := Tryz.sizeOf21
  v21 := Tryz.zeroValue21
  t31 := Tryz.underlying26
  a31 := Tryz.isAgg26
  z31 := Tryz.sizeOf26
  v31 := Tryz.zeroValue26
  t46 := Tryz.underlying161
  a46 := Tryz.isAgg161
  z46 := Tryz.sizeOf161
  v46 := Tryz.zeroValue161
  t51 := Tryz.underlying173
  a51 := Tryz.isAgg173
  z51 := Tryz.sizeOf173
  v51 := Tryz.zeroValue173
  t105 := Tryz.underlying168
  a105 := Tryz.isAgg168
  z105 := Tryz.sizeOf168
  v105 := Tryz.zeroValue168
  t119 := Tryz.underlying194
  a119 := Tryz.isAgg194
  z119 := Tryz.sizeOf194
  t138 := Tryz.underlying196
  a138 := Tryz.isAgg196
  z138 := Tryz.sizeOf196
  v138 := Tryz.zeroValue196
  t139 := Tryz.underlying197
  a139 := Tryz.isAgg197
  z139 := Tryz.sizeOf197
  v139 := Tryz.zeroValue197
  t146 := Tryz.underlying180
  a146 := Tryz.isAgg180
  z146 := Tryz.sizeOf180
  v146 := Tryz.zeroValue180
  g1 := by kernel_rfl
  g3 := by kernel_rfl
  g4 := by kernel_rfl }
open Go.RowKit Go.Lib in
theorem Tryz.strings_Split (s sep : ByteArray)(m : Int)(w : World)(hs : s.size<4294967281)(hm : w.cell? ⟨0, 0, none⟩ = some (.int .i64 m))(h1 : 1 ≤ sep.size) :
    Calls Tryz.prog 36 #[.string s, .string sep] w fun e w' =>
      e = .returned (.slice (some ⟨w.heap.size, 0, none⟩) (Lib.countB s sep + 1) (Lib.countB s sep + 1)) ∧ w' = w.alloc (.cells ((Lib.splitB sep 0 (Lib.countB s sep) s).map Value.string).toArray 9) := Any.strings_Split Tryz.lays146 (by kernel_rfl) s sep m w hs hm h1
end Go.Proofs
namespace Go.Proofs.YtjdpdkdhfnpcgaaGreatDoor.Q
open Go.RowKit Go.Proofs.YtjdpdkdhfnpcgaaGreatDoorW.PrintWords Go.Proofs.YtjdpdkdhfnpcgaaGreatDoorW.PrintLast Go.Proofs.YtjdpdkdhfnpcgaaGreatDoorW.PrintMore
set_option linter.unusedVariables false
def GOK (w : World) : Prop := (∃ m, w.cell? ⟨0, 0, none⟩ = some (.int .i64 m)) ∧ Lib.TabIs Tryz.prog w "internal/strconv.uint64pow10" .u64 Lib.pow10Tab
theorem GOK.drewN {w:World}(h:GOK w)(n:Nat):GOK (w.drewN n):=h
theorem GOK.drew {w:World}(h:GOK w):GOK w.drew:=h
theorem GOK.below {w w':World}(h:GOK w)(hb:Below w.heap.size w w'):GOK w':=by
 obtain⟨⟨m,hm⟩,ht⟩:=h;exact⟨⟨m,pw_cell_below hb hm⟩,Lib.tabBelow_of_tabIs ht w' hb⟩
def GOKE (w:World):Prop:=GOK w∧(∃ tp p,w.cell? ⟨2,0,none⟩=some (.iface tp p))∧(∃ tp p,w.cell? ⟨3,0,none⟩=some (.iface tp p))
theorem GOKE.drewN {w:World}(h:GOKE w)(n:Nat):GOKE (w.drewN n):=h
theorem GOKE.drew {w:World}(h:GOKE w):GOKE w.drew:=h
theorem GOKE.weak {w:World}(h:GOKE w):GOK w:=h.1
theorem GOKE.below {w w':World}(h:GOKE w)(hb:Below w.heap.size w w'):GOKE w':=by
 obtain⟨h0,⟨t1,p1,h1⟩,⟨t2,p2,h2⟩⟩:=h;exact⟨h0.below hb,⟨t1,p1,pw_cell_below hb h1⟩,⟨t2,p2,pw_cell_below hb h2⟩⟩
theorem GOK.len {w:World}(h:GOK w):∃ m,w.cell? ⟨0,0,none⟩=some (.int .i64 m):=h.1
def splitL (s sep:ByteArray):List ByteArray:=Lib.splitB sep 0 (Lib.countB s sep) s
def yay.f (a0 a1:ByteArray):Option (List ByteArray):=if a0.size<4294967281∧1≤a1.size∧(splitL a0 a1).length≤1099511627776 then some (splitL a0 a1)else none
theorem yay.calls (a0 a1:ByteArray)(r:List ByteArray)(w:World)(hG:GOK w)(h:yay.f a0 a1=some r) :
 Calls Tryz.prog 36 #[.string a0,.string a1] w fun e w'=>∃ v0_:Value,e=.returned (v0_)∧Kd.R Kd.string 9 w' w.heap.size (fun _=>True) v0_ r∧Below w.heap.size w w':=by
 unfold yay.f at h;split at h
 ·rename_i hs;obtain⟨m,hm⟩:=hG.len;injection h with h;subst h;have hl:(splitL a0 a1).length=Lib.countB a0 a1+1:=Lib.splitB_all a1 hs.2.1 0 _ a0 rfl;refine(Tryz.strings_Split a0 a1 m w hs.1 hm hs.2.1).mono ?_;rintro e w' ⟨rfl,rfl⟩;refine⟨_,rfl,⟨fun _ _=>trivial,encs Value.string (splitL a0 a1),?_,Kd.reps_scalar _⟩,(Below.refl _ w).alloc (Nat.le_refl _) _⟩;have:=own_lit_of (enc:=Value.string) w w.heap.size 9 (splitL a0 a1) (Nat.le_refl _) zoo;rw[← hl];exact this
 ·cases h
def asciiB (l:List UInt8):Bool:=l.all (fun b=>decide (b.toNat<128))
def ybx.f (a0 a1:ByteArray):Option ByteArray:=if a0.size≤9223372036854775807∧a1.size<4294967281∧asciiB a1.data.toList=true then some ⟨(Lib.trimS a0.data.toList a1.data.toList).toArray⟩else none
theorem ybx.calls (a0 a1:ByteArray)(r:ByteArray)(w:World)(h:ybx.f a0 a1=some r) :
 Calls Tryz.prog 111 #[.string a0,.string a1] w fun e w'=>e=.returned (.string r)∧Below w.heap.size w w':=by
 unfold ybx.f at h;split at h
 ·rename_i hs;injection h with h;subst h;exact Any.strings_Trim_laid Tryz.lays160 zok a0 a1 w hs.1 hs.2.1 (ascii_of_all hs.2.2)
 ·cases h
def yaj.f (a0 a1:ByteArray):Option (ByteArray × ByteArray × Bool) :=
 if a0.size<4294967281 then some (⟨(Lib.cut a0.data.toList a1.data.toList).1.toArray⟩,⟨(Lib.cut a0.data.toList a1.data.toList).2.1.toArray⟩,(Lib.cut a0.data.toList a1.data.toList).2.2)else none
theorem yaj.calls (a0 a1:ByteArray)(r1 r2:ByteArray)(r3:Bool)(w:World)(hG:GOK w)(h:yaj.f a0 a1=some (r1,r2,r3)) :
 Calls Tryz.prog 33 #[.string a0,.string a1] w fun e w'=>e=.returned (.tuple #[.string r1,.string r2,.bool r3])∧Drawn0 w w':=by
 unfold yaj.f at h;split at h
 ·rename_i hs;obtain⟨m,hm⟩:=hG.len;injection h with h;injection h with h1 h;injection h with h2 h3;subst h1 h2 h3;refine(Tryz.strings_Cut a0 a1 m w hs hm).mono ?_;rintro e w' ⟨rfl,n,rfl⟩;exact⟨rfl,⟨⟨n,rfl⟩⟩⟩
 ·cases h
end Go.Proofs.YtjdpdkdhfnpcgaaGreatDoor.Q
namespace Go.Proofs.YtjdpdkdhfnpcgaaGreatDoor.Q
open Go.RowKit Go.Proofs.YtjdpdkdhfnpcgaaGreatDoorW.PrintWords Go.Proofs.YtjdpdkdhfnpcgaaGreatDoorW.PrintLast Go.Proofs.YtjdpdkdhfnpcgaaGreatDoorW.PrintMore Tryz
attribute [local go_sem] max2_int min2_int max_two min_two max_three min_three max_four min_four
set_option linter.unusedVariables false
set_option linter.unusedSimpArgs false
attribute [local go_sem high] eqA24
def ybp.f (k:Nat)(ag:Int)(ah:Int)(aT:ByteArray)(bi:ByteArray)(bu:Int)(bk:ByteArray)(bm:ByteArray)(aX:List (S24))(aY:List ByteArray):Option (ByteArray):=(ya3.f k ag ah aT bi bu bk bm aX aY).bind fun oI=>(if oI=true then((yal.f k ag ah aT bi bu bk bm aX aY).bind fun mz=>(some mz))else(some (⟨#[]⟩:ByteArray)))
theorem ybp.calls (k:Nat)(ag:Int)(ah:Int)(aT:ByteArray)(bi:ByteArray)(bu:Int)(bk:ByteArray)(bm:ByteArray)(cv:Option Addr)(cw:Nat)(aX:List (S24))(cx:Option Addr)(cy:Nat)(aY:List ByteArray)(r:ByteArray)(w:World)(iG:Kd.C k24 w cv aX.length aX)(iH:aX.length≤cw)(iI:Kd.C Kd.string w cx aY.length aY)(iJ:aY.length≤cy)(h:ybp.f k ag ah aT bi bu bk bm aX aY=some r) :
 Calls prog 9 #[.agg #[.int .i64 ag,.int .i64 ah,.string aT,.string bi,.int .i64 bu,.string bk,.string bm,.slice cv aX.length cw,.slice cx aY.length cy]] w fun e w'=>e=.returned (.string r)∧Below w.heap.size w w':=by
 have hu30:=underlying30;have fZ:=zA iG;have f6:=zA iH;clear iG iH;have f7:=zA iI;have f9:=zA iJ;clear iI iJ;have HB:=zA (Below.refl w.heap.size w);have H:=h;clear h;unfold ybp.f at H;replace H:=zM H;obtain⟨oI,A2,H⟩:=H;replace H:=zb H;obtain⟨rfl,H⟩|⟨rfl,H⟩:=H
 ·obtain rfl:=zs H;go_enter func9,ntmps9;(go_wp2_with (first|((with_reducible refine zq6 (N:=1) rfl ?_);refine zEa (N:=1) (cs:=#[.int .i64 ag,.int .i64 ah,.string aT,.string bi,.int .i64 bu,.string bk,.string bm,.slice cv aX.length cw,.slice cx aY.length cy]) (t:=30) ?_;intro ly hg eI gv hb;have AA:=zA (zS hg:w.heap.size≤ly);have AB:=zA (zS hg:w.heap.size≤ly);replace HB:=zhb hb;clear hb hg;obtain⟨_,_,_,_,_,_,_,_,_⟩:=zc9 gv.out;obtain⟨_,_,_,_,_,_,_,_,_⟩:=zf9 gv.out)|((with_reducible refine zq2 (f:=25) rfl ?_);refine zq7 (some 4) rfl rfl func25 zY1 rfl #[.agg #[.int .i64 ag,.int .i64 ah,.string aT,.string bi,.int .i64 bu,.string bk,.string bm,.slice cv aX.length cw,.slice cx aY.length cy]] rfl zY0 ?_;(with_reducible refine(ya3.calls k ag ah aT bi bu bk bm _ _ aX _ _ aY false _ ?side1 ?side2 ?side3 ?side4 A2.out).mono ?_);(case side1=>exact zC (Kd.z0 fZ.out HB.out));(case side2=>exact f6.out);(case side3=>exact zC (Kd.z0 f7.out HB.out));(case side4=>exact f9.out);rintro e fe ⟨rfl,hb⟩;refine⟨_,rfl,?_⟩;replace gv:=zA (zq1 (zK gv.out) hb);replace HB:=zhb hb;clear hb)));go_ret;exact⟨zT,zB⟩
 replace H:=zM H;obtain⟨mz,A4,H⟩:=H;obtain rfl:=zs H;go_enter func9,ntmps9;go_wp2_with (first|((with_reducible refine zq6 (N:=1) rfl ?_);refine zEa (N:=1) (cs:=#[.int .i64 ag,.int .i64 ah,.string aT,.string bi,.int .i64 bu,.string bk,.string bm,.slice cv aX.length cw,.slice cx aY.length cy]) (t:=30) ?_;intro ly hg w5 gv hb;have AA:=zA (zS hg:w.heap.size≤ly);have AB:=zA (zS hg:w.heap.size≤ly);replace HB:=zhb hb;clear hb hg;obtain⟨_,_,_,_,_,_,_,_,_⟩:=zc9 gv.out;obtain⟨_,_,_,_,_,_,_,_,_⟩:=zf9 gv.out)|((with_reducible refine zq2 (f:=25) rfl ?_);refine zq7 (some 4) rfl rfl func25 zY1 rfl #[.agg #[.int .i64 ag,.int .i64 ah,.string aT,.string bi,.int .i64 bu,.string bk,.string bm,.slice cv aX.length cw,.slice cx aY.length cy]] rfl zY0 ?_;(with_reducible refine(ya3.calls k ag ah aT bi bu bk bm _ _ aX _ _ aY true _ ?side1 ?side2 ?side3 ?side4 A2.out).mono ?_);(case side1=>exact zC (Kd.z0 fZ.out HB.out));(case side2=>exact f6.out);(case side3=>exact zC (Kd.z0 f7.out HB.out));(case side4=>exact f9.out);rintro e w7 ⟨rfl,hb⟩;refine⟨_,rfl,?_⟩;replace gv:=zA (zq1 (zK gv.out) hb);replace HB:=zhb hb;clear hb;obtain⟨_,_,_,_,_,_,_,_,_⟩:=zc9 gv.out;obtain⟨_,_,_,_,_,_,_,_,_⟩:=zf9 gv.out)|((with_reducible refine zq2 (f:=26) rfl ?_);refine zq7 (some 7) rfl rfl func26 zY1 rfl #[.agg #[.int .i64 ag,.int .i64 ah,.string aT,.string bi,.int .i64 bu,.string bk,.string bm,.slice cv aX.length cw,.slice cx aY.length cy]] rfl zY0 ?_;(with_reducible refine(yal.calls k ag ah aT bi bu bk bm _ _ aX _ _ aY mz _ ?side1 ?side2 ?side3 ?side4 A4.out).mono ?_);(case side1=>exact zC (Kd.z0 fZ.out HB.out));(case side2=>exact f6.out);(case side3=>exact zC (Kd.z0 f7.out HB.out));(case side4=>exact f9.out);rintro e w9 ⟨rfl,hb⟩;refine⟨_,rfl,?_⟩;replace gv:=zA (zq1 (zK gv.out) hb);replace HB:=zhb hb;clear hb))
 go_ret;exact⟨zT,zB⟩
def yaO.f (a0:Int)(a1:Int)(a2:Int):Option (Bool):=if a0≥a1 then(some (decide (a0≤a2)))else(some false)
theorem yaO.calls (a0:Int)(a1:Int)(a2:Int)(r:Bool)(w:World)(h:yaO.f a0 a1 a2=some r) :
 Calls prog 27 #[.int .i64 a0,.int .i64 a1,.int .i64 a2] w fun e w'=>e=.returned (.bool r)∧Drawn0 w w':=by
 have H:=h;clear h;unfold yaO.f at H;obtain⟨c4b0,H⟩|⟨c4b0,H⟩:=zh H zkEg zkENg
 ·obtain rfl:=zs H;go_enter func27,ntmps27;go_wp2;go_ret;exact⟨by first|rfl|(simp;done)|(simp[*];done),by repeat(first|exact Drawn0.refl _|apply Drawn0.step)⟩
 obtain rfl:=zs H;go_enter func27,ntmps27;go_wp2;go_ret;exact⟨by first|rfl|(simp;done)|(simp[*];done),by repeat(first|exact Drawn0.refl _|apply Drawn0.step)⟩
def ybb.f (a0:ByteArray):Option (Bool):=(yaO.f (a0.size:Int) 1 8).bind fun dk=>(if dk=true then((ybx.f a0 (⟨#[97,98,99,100,101,102,103,104,105,106,107,108,109,110,111,112,113,114,115,116,117,118,119,120,121,122,48,49,50,51,52,53,54,55,56,57]⟩:ByteArray)).bind fun fK=>(some (fK.toList==([]:List UInt8))))else(some false))
theorem ybb.calls (a0:ByteArray)(r:Bool)(w:World)(h:ybb.f a0=some r) :
 Calls prog 63 #[.string a0] w fun e w'=>e=.returned (.bool r)∧Below w.heap.size w w':=by
 have HB:=zA (Below.refl w.heap.size w);have H:=h;clear h;unfold ybb.f at H;replace H:=zM H;obtain⟨dk,A2,H⟩:=H;replace H:=zb H;obtain⟨rfl,H⟩|⟨rfl,H⟩:=H
 ·obtain rfl:=zs H;go_enter func63,ntmps63;(go_wp2_with (first|((with_reducible refine zq2 (f:=27) rfl ?_);refine zq7 (some 5) rfl rfl func27 zY1 rfl #[.int .i64 (a0.size:Int),.int .i64 1,.int .i64 8] rfl zY0 ?_;(with_reducible refine(yaO.calls (a0.size:Int) 1 8 false _ A2.out).mono ?_);rintro e w' ⟨rfl,⟨nd,rfl⟩⟩;refine⟨_,rfl,?_⟩)));go_ret;exact⟨by first|rfl|(simp[errW_none,errW_some]<;>rfl)|(simp[*,errW_none,errW_some]<;>rfl)|(simp[*,errW_none,errW_some];cases fK.toList<;>rfl),zB⟩
 replace H:=zM H;obtain⟨fK,A4,H⟩:=H;obtain rfl:=zs H;go_enter func63,ntmps63;go_wp2_with (first|((with_reducible refine zq2 (f:=27) rfl ?_);refine zq7 (some 5) rfl rfl func27 zY1 rfl #[.int .i64 (a0.size:Int),.int .i64 1,.int .i64 8] rfl zY0 ?_;(with_reducible refine(yaO.calls (a0.size:Int) 1 8 true _ A2.out).mono ?_);rintro e w' ⟨rfl,⟨nd,rfl⟩⟩;refine⟨_,rfl,?_⟩)|(go_at_call 111;(with_reducible refine(ybx.calls a0 bz39 fK _ A4.out).mono ?_);rintro e w5 ⟨rfl,hb⟩;replace HB:=zhb hb;clear hb))
 go_ret;exact⟨by first|rfl|(simp[errW_none,errW_some]<;>rfl)|(simp[*,errW_none,errW_some]<;>rfl)|(simp[*,errW_none,errW_some];cases fK.toList<;>rfl),zB⟩
def yaU.l0:Nat→List ByteArray→List ByteArray→Int→Int→Option (Bool)
 | 0,_,_,_,_=>none
 | k+1,x3,x8,x9,uo=>if uo<x9 then(if 0≤uo then(if uo<(x8.length:Int)then((ybb.f (rdOf ByteArray.empty x8 uo)).bind fun dW=>(if dW=true then(yaU.l0 k x3 x8 x9 (wrap64 (uo+1)))else(some false)))else(none))else(none))else(some (decide ((x3.length:Int)≤3)))
def yaU.f (k:Nat)(a0:ByteArray):Option (Bool):=(yay.f a0 (⟨#[46]⟩:ByteArray)).bind fun dk=>(yaU.l0 k dk dk (dk.length:Int) 0)
theorem yaU.calls (k:Nat)(a0:ByteArray)(r:Bool)(w:World)(hG:GOK w)(h:yaU.f k a0=some r) :
 Calls prog 64 #[.string a0] w fun e w'=>e=.returned (.bool r)∧Below w.heap.size w w':=by
 have HG:=zA hG;clear hG;have HB:=zA (Below.refl w.heap.size w);have H:=h;clear h;unfold yaU.f at H;replace H:=zM H;obtain⟨dk,A2,H⟩:=H;have H':=zA H;clear H;go_enter func64,ntmps64;go_wp2_with (first|((with_reducible refine zq2 (f:=36) rfl ?_);refine zq7 (some 7) rfl rfl func36 zY1 rfl #[.string a0,.string bz6] rfl zY0 ?_;(with_reducible refine(yay.calls a0 bz6 dk _ zg A2.out).mono ?_);rintro e w3 ⟨KH,rfl,ap,hb⟩;refine⟨_,rfl,?_⟩;have tK:=zA (Kd.z5 ap (zq3 zB));replace HB:=zhb hb;clear hb ap;obtain⟨Gc,Gd,Lf⟩:=Kd.z8 tK.out;subst Lf))
 go_loopg [10] k (fun kq Lg w'=>∃(jM:Int),Lg=.int .i64 jM∧Aside0 (yaU.l0 kq dk dk (dk.length:Int) jM=some r)∧Aside0 (kq≤k)∧Aside0 (Kd.R Kd.string 9 w' w.heap.size (fun _=>True) (.slice Gc dk.length Gd) dk)∧Aside0 (Kd.R Kd.string 9 w' w.heap.size (fun _=>True) (.slice Gc dk.length Gd) dk)∧Aside0 (Below w.heap.size w w'))
 case atStart=>exact⟨(0),zY3,H',⟨Nat.le_refl _⟩,⟨zVR tK.out⟩,⟨zVR tK.out⟩,⟨zB⟩⟩
 case round =>
  clear H';obtain⟨jM,rfl,HA,HK1,fW,qm,HB⟩:=hrel;cases gk with
  | zero=>exact absurd HA.out (by simp[yaU.l0])
  | succ k1 =>
   have H:=HA.out;clear HA;simp only[yaU.l0]at H;replace H:=zf H zkNd zkd;obtain⟨c5b0,H⟩|⟨c5b0,H⟩:=H
   ·obtain rfl:=zs H;go_wp2;go_ret;exact⟨zT,zB⟩
   replace H:=zp H zkd;obtain⟨c6b0,H⟩:=H;replace H:=zp H zkd;obtain⟨c7b0,H⟩:=H;replace H:=zM H;obtain⟨dW,A8,H⟩:=H;replace H:=zb H;obtain⟨rfl,H⟩|⟨rfl,H⟩:=H
   ·obtain rfl:=zs H;have fq:0≤(jM:Int):=zw;have ft:jM<(dk.length:Int):=zw;obtain⟨lz,lA,ir⟩:=Kd.z16 (Kd.z7 qm.out).2.2 jM fq ft;cases lA;replace fq:=eq_true fq;replace ft:=eq_true ft;(go_wp2_with (first|((with_reducible refine zq2 (f:=63) rfl ?_);refine zq7 (some 15) rfl rfl func63 zY1 rfl #[.string (rdOf ByteArray.empty dk jM)] rfl zY0 ?_;(with_reducible refine(ybb.calls (rdOf ByteArray.empty dk jM) false _ A8.out).mono ?_);rintro e jK ⟨rfl,hb⟩;refine⟨_,rfl,?_⟩;replace fW:=zA (Kd.z3 (zVR fW.out) hb);replace qm:=zA (Kd.z3 (zVR qm.out) hb);replace HB:=zhb hb;clear hb)));go_ret;exact⟨zT,zB⟩
   have H':=zA H;clear H;have fq:0≤(jM:Int):=zw;have ft:jM<(dk.length:Int):=zw;obtain⟨lz,lA,ir⟩:=Kd.z16 (Kd.z7 qm.out).2.2 jM fq ft;cases lA;replace fq:=eq_true fq;replace ft:=eq_true ft;(go_wp2_with (first|((with_reducible refine zq2 (f:=63) rfl ?_);refine zq7 (some 15) rfl rfl func63 zY1 rfl #[.string (rdOf ByteArray.empty dk jM)] rfl zY0 ?_;(with_reducible refine(ybb.calls (rdOf ByteArray.empty dk jM) true _ A8.out).mono ?_);rintro e eI ⟨rfl,hb⟩;refine⟨_,rfl,?_⟩;replace fW:=zA (Kd.z3 (zVR fW.out) hb);replace qm:=zA (Kd.z3 (zVR qm.out) hb);replace HB:=zhb hb;clear hb)));go_roundg k1;(case measure=>have:=HK1.out;omega);case rel=>exact⟨(wrap64 (jM+1)),zY3,H',⟨by have:=HK1.out;omega⟩,⟨zVR fW.out⟩,⟨zVR qm.out⟩,⟨zB⟩⟩
def ybd.f (k:Nat)(ag:ByteArray)(ah:ByteArray):Option (Bool):=(ybb.f ag).bind fun kB=>(if kB=true then((yaU.f k ah).bind fun gK=>(some gK))else(some false))
theorem ybd.calls (k:Nat)(ag:ByteArray)(ah:ByteArray)(r:Bool)(w:World)(hG:GOK w)(h:ybd.f k ag ah=some r) :
 Calls prog 28 #[.agg #[.string ag,.string ah]] w fun e w'=>e=.returned (.bool r)∧Below w.heap.size w w':=by
 have hu24:=underlying24;have HG:=zA hG;clear hG;have HB:=zA (Below.refl w.heap.size w);have H:=h;clear h;unfold ybd.f at H;replace H:=zM H;obtain⟨kB,A2,H⟩:=H;replace H:=zb H;obtain⟨rfl,H⟩|⟨rfl,H⟩:=H
 ·obtain rfl:=zs H;go_enter func28,ntmps28;(go_wp2_with (first|((with_reducible refine zq6 (N:=1) rfl ?_);refine zEa (N:=1) (cs:=#[.string ag,.string ah]) (t:=24) ?_;intro gN hg eI cd hb;have si:=zA (zS hg:w.heap.size≤gN);have sj:=zA (zS hg:w.heap.size≤gN);replace HB:=zhb hb;clear hb hg;obtain⟨_,_⟩:=zc2 cd.out;obtain⟨_,_⟩:=zf2 cd.out)|((with_reducible refine zq2 (f:=63) rfl ?_);refine zq7 (some 5) rfl rfl func63 zY1 rfl #[.string ag] rfl zY0 ?_;(with_reducible refine(ybb.calls ag false _ A2.out).mono ?_);rintro e fe ⟨rfl,hb⟩;refine⟨_,rfl,?_⟩;replace cd:=zA (zq1 (zK cd.out) hb);replace HB:=zhb hb;clear hb)));go_ret;exact⟨zT,zB⟩
 replace H:=zM H;obtain⟨gK,A4,H⟩:=H;obtain rfl:=zs H;go_enter func28,ntmps28;go_wp2_with (first|((with_reducible refine zq6 (N:=1) rfl ?_);refine zEa (N:=1) (cs:=#[.string ag,.string ah]) (t:=24) ?_;intro gN hg w5 cd hb;have si:=zA (zS hg:w.heap.size≤gN);have sj:=zA (zS hg:w.heap.size≤gN);replace HB:=zhb hb;clear hb hg;obtain⟨_,_⟩:=zc2 cd.out;obtain⟨_,_⟩:=zf2 cd.out)|((with_reducible refine zq2 (f:=63) rfl ?_);refine zq7 (some 5) rfl rfl func63 zY1 rfl #[.string ag] rfl zY0 ?_;(with_reducible refine(ybb.calls ag true _ A2.out).mono ?_);rintro e w7 ⟨rfl,hb⟩;refine⟨_,rfl,?_⟩;replace cd:=zA (zq1 (zK cd.out) hb);replace HB:=zhb hb;clear hb;obtain⟨_,_⟩:=zc2 cd.out;obtain⟨_,_⟩:=zf2 cd.out)|(go_at_call 64;(with_reducible refine(yaU.calls k ah gK _ zg A4.out).mono ?_);rintro e w9 ⟨rfl,hb⟩;replace cd:=zA (zq1 (zK cd.out) hb);replace HB:=zhb hb;clear hb))
 go_ret;exact⟨zT,zB⟩
def yaG.f (ag:ByteArray)(ah:ByteArray):Option (Bool):=some (ag.toList==([]:List UInt8) && (ah.toList==([]:List UInt8)))
theorem yaG.calls (ag:ByteArray)(ah:ByteArray)(r:Bool)(w:World)(h:yaG.f ag ah=some r) :
 Calls prog 32 #[.agg #[.string ag,.string ah]] w fun e w'=>e=.returned (.bool r)∧Below w.heap.size w w':=by
 have hu24:=underlying24;have HB:=zA (Below.refl w.heap.size w);have H:=h;clear h;unfold yaG.f at H;obtain rfl:=zs H;go_enter func32,ntmps32;go_wp2_with (first|((with_reducible refine zq6 (N:=1) rfl ?_);refine zEa (N:=1) (cs:=#[.string ag,.string ah]) (t:=24) ?_;intro dt hg w2 bC hb;have lq:=zA (zS hg:w.heap.size≤dt);have lr:=zA (zS hg:w.heap.size≤dt);replace HB:=zhb hb;clear hb hg;obtain⟨_,_⟩:=zc2 bC.out;obtain⟨_,_⟩:=zf2 bC.out))
 go_ret;exact⟨zT,zB⟩
def ybr.f (ag:ByteArray)(ah:ByteArray)(az:List (S24))(bb:List ByteArray):Option (Bool):=(yaG.f ag ah).bind fun fc=>(if fc=true then(if(az.length:Int)=0 then(some ((bb.length:Int)==0))else(some false))else(some false))
theorem ybr.calls (ag:ByteArray)(ah:ByteArray)(du:Option Addr)(dh:Nat)(az:List (S24))(cB:Option Addr)(cC:Nat)(bb:List ByteArray)(r:Bool)(w:World)(iE:Kd.C k24 w du az.length az)(iF:az.length≤dh)(gL:Kd.C Kd.string w cB bb.length bb)(gM:bb.length≤cC)(h:ybr.f ag ah az bb=some r) :
 Calls prog 29 #[.agg #[.string ag,.string ah,.slice du az.length dh,.slice cB bb.length cC]] w fun e w'=>e=.returned (.bool r)∧Below w.heap.size w w':=by
 have hu28:=underlying28;have hu24:=underlying24;have fY:=zA iE;have jI:=zA iF;clear iE iF;have gw:=zA gL;have iq:=zA gM;clear gL gM;have HB:=zA (Below.refl w.heap.size w);have H:=h;clear h;unfold ybr.f at H;replace H:=zM H;obtain⟨fc,A2,H⟩:=H;replace H:=zb H;obtain⟨rfl,H⟩|⟨rfl,H⟩:=H
 ·obtain rfl:=zs H;go_enter func29,ntmps29;(go_wp2_with (first|((with_reducible refine zq6 (N:=1) rfl ?_);(try(refine gate_guard zY19 ?_;dsimp only));refine zEa (N:=1) (cs:=#[.string ag,.string ah,.slice du az.length dh,.slice cB bb.length cC]) (t:=28) ?_;intro i7 hg iu bA hb;have xg:=zA (zS hg:w.heap.size≤i7);have xh:=zA (zS hg:w.heap.size≤i7);replace HB:=zhb hb;clear hb hg;obtain⟨_,_,_,_⟩:=zc4 bA.out;obtain⟨_,_,_,_⟩:=zf4 bA.out)|((with_reducible refine zq2 (f:=32) rfl ?_);refine zq7 (some 5) rfl rfl func32 zY1 rfl #[.agg #[.string ag,.string ah]] rfl zY0 ?_;(with_reducible refine(yaG.calls ag ah false _ A2.out).mono ?_);rintro e nt ⟨rfl,hb⟩;refine⟨_,rfl,?_⟩;replace bA:=zA (zq1 (zK bA.out) hb);replace HB:=zhb hb;clear hb)));go_ret;exact⟨zT,zB⟩
 replace H:=zh H zkQqn zkQNqnk;obtain⟨⟨c4b0,c4b1⟩,H⟩|⟨⟨c4b0,c4b1,c4⟩,H⟩:=H
 ·obtain rfl:=zs H;go_enter func29,ntmps29;(go_wp2_with (first|((with_reducible refine zq6 (N:=1) rfl ?_);(try(refine gate_guard zY19 ?_;dsimp only));refine zEa (N:=1) (cs:=#[.string ag,.string ah,.slice du az.length dh,.slice cB bb.length cC]) (t:=28) ?_;intro i7 hg w5 bA hb;have xg:=zA (zS hg:w.heap.size≤i7);have xh:=zA (zS hg:w.heap.size≤i7);replace HB:=zhb hb;clear hb hg;obtain⟨_,_,_,_⟩:=zc4 bA.out;obtain⟨_,_,_,_⟩:=zf4 bA.out)|((with_reducible refine zq2 (f:=32) rfl ?_);refine zq7 (some 5) rfl rfl func32 zY1 rfl #[.agg #[.string ag,.string ah]] rfl zY0 ?_;(with_reducible refine(yaG.calls ag ah true _ A2.out).mono ?_);rintro e w7 ⟨rfl,hb⟩;refine⟨_,rfl,?_⟩;replace bA:=zA (zq1 (zK bA.out) hb);replace HB:=zhb hb;clear hb;obtain⟨_,_,_,_⟩:=zc4 bA.out;obtain⟨_,_,_,_⟩:=zf4 bA.out)));go_ret;exact⟨zT,zB⟩
 have c4b2:¬ (az=[]):=fun h_=>c4 (by rw[h_];rfl);obtain rfl:=zs H;go_enter func29,ntmps29;go_wp2_with (first|((with_reducible refine zq6 (N:=1) rfl ?_);(try(refine gate_guard zY19 ?_;dsimp only));refine zEa (N:=1) (cs:=#[.string ag,.string ah,.slice du az.length dh,.slice cB bb.length cC]) (t:=28) ?_;intro i7 hg w9 bA hb;have xg:=zA (zS hg:w.heap.size≤i7);have xh:=zA (zS hg:w.heap.size≤i7);replace HB:=zhb hb;clear hb hg;obtain⟨_,_,_,_⟩:=zc4 bA.out;obtain⟨_,_,_,_⟩:=zf4 bA.out)|((with_reducible refine zq2 (f:=32) rfl ?_);refine zq7 (some 5) rfl rfl func32 zY1 rfl #[.agg #[.string ag,.string ah]] rfl zY0 ?_;(with_reducible refine(yaG.calls ag ah true _ A2.out).mono ?_);rintro e jK ⟨rfl,hb⟩;refine⟨_,rfl,?_⟩;replace bA:=zA (zq1 (zK bA.out) hb);replace HB:=zhb hb;clear hb;obtain⟨_,_,_,_⟩:=zc4 bA.out;obtain⟨_,_,_,_⟩:=zf4 bA.out))
 go_ret;exact⟨zT,zB⟩
def yaE.f (k:Nat)(ag:ByteArray)(ah:ByteArray):Option (Bool):=(yaG.f ag ah).bind fun fK=>(if fK=true then(some true)else((ybd.f k ag ah).bind fun fc=>(some fc)))
theorem yaE.calls (k:Nat)(ag:ByteArray)(ah:ByteArray)(r:Bool)(w:World)(hG:GOK w)(h:yaE.f k ag ah=some r) :
 Calls prog 66 #[.agg #[.string ag,.string ah]] w fun e w'=>e=.returned (.bool r)∧Below w.heap.size w w':=by
 have hu24:=underlying24;have HG:=zA hG;clear hG;have HB:=zA (Below.refl w.heap.size w);have H:=h;clear h;unfold yaE.f at H;replace H:=zM H;obtain⟨fK,A2,H⟩:=H;replace H:=zbp H;obtain⟨rfl,H⟩|⟨rfl,H⟩:=H
 ·obtain rfl:=zs H;go_enter func66,ntmps66;(go_wp2_with (first|((with_reducible refine zq6 (N:=1) rfl ?_);refine zEa (N:=1) (cs:=#[.string ag,.string ah]) (t:=24) ?_;intro dt hg w4 bC hb;have lq:=zA (zS hg:w.heap.size≤dt);have lr:=zA (zS hg:w.heap.size≤dt);replace HB:=zhb hb;clear hb hg;obtain⟨_,_⟩:=zc2 bC.out;obtain⟨_,_⟩:=zf2 bC.out)|((with_reducible refine zq2 (f:=32) rfl ?_);refine zq7 (some 4) rfl rfl func32 zY1 rfl #[.agg #[.string ag,.string ah]] rfl zY0 ?_;(with_reducible refine(yaG.calls ag ah true _ A2.out).mono ?_);rintro e w6 ⟨rfl,hb⟩;refine⟨_,rfl,?_⟩;replace bC:=zA (zq1 (zK bC.out) hb);replace HB:=zhb hb;clear hb)));go_ret;exact⟨zT,zB⟩
 replace H:=zM H;obtain⟨fc,A7,H⟩:=H;obtain rfl:=zs H;go_enter func66,ntmps66;go_wp2_with (first|((with_reducible refine zq6 (N:=1) rfl ?_);refine zEa (N:=1) (cs:=#[.string ag,.string ah]) (t:=24) ?_;intro dt hg w8 bC hb;have lq:=zA (zS hg:w.heap.size≤dt);have lr:=zA (zS hg:w.heap.size≤dt);replace HB:=zhb hb;clear hb hg;obtain⟨_,_⟩:=zc2 bC.out;obtain⟨_,_⟩:=zf2 bC.out)|((with_reducible refine zq2 (f:=32) rfl ?_);refine zq7 (some 4) rfl rfl func32 zY1 rfl #[.agg #[.string ag,.string ah]] rfl zY0 ?_;(with_reducible refine(yaG.calls ag ah false _ A2.out).mono ?_);rintro e eI ⟨rfl,hb⟩;refine⟨_,rfl,?_⟩;replace bC:=zA (zq1 (zK bC.out) hb);replace HB:=zhb hb;clear hb;obtain⟨_,_⟩:=zc2 bC.out;obtain⟨_,_⟩:=zf2 bC.out)|(go_at_call 28;(with_reducible refine(ybd.calls k ag ah fc _ zg A7.out).mono ?_);rintro e fe ⟨rfl,hb⟩;replace bC:=zA (zq1 (zK bC.out) hb);replace HB:=zhb hb;clear hb))
 go_ret;exact⟨zT,zB⟩
def ybs.f (k:Nat)(ag:ByteArray)(ah:ByteArray):Option (Bool):=(ybd.f k ag ah).bind fun fK=>(some (!fK))
theorem ybs.calls (k:Nat)(ag:ByteArray)(ah:ByteArray)(r:Bool)(w:World)(hG:GOK w)(h:ybs.f k ag ah=some r) :
 Calls prog 65 #[.agg #[.string ag,.string ah]] w fun e w'=>e=.returned (.bool r)∧Below w.heap.size w w':=by
 have hu24:=underlying24;have HG:=zA hG;clear hG;have HB:=zA (Below.refl w.heap.size w);have H:=h;clear h;unfold ybs.f at H;obtain⟨fK,A2,H⟩:=zM H;obtain rfl:=zs H;go_enter func65,ntmps65;go_wp2_with (first|((with_reducible refine zq6 (N:=1) rfl ?_);refine zEa (N:=1) (cs:=#[.string ag,.string ah]) (t:=24) ?_;intro dt hg w3 bC hb;have lq:=zA (zS hg:w.heap.size≤dt);have lr:=zA (zS hg:w.heap.size≤dt);replace HB:=zhb hb;clear hb hg;obtain⟨_,_⟩:=zc2 bC.out;obtain⟨_,_⟩:=zf2 bC.out)|((with_reducible refine zq2 (f:=28) rfl ?_);refine zq7 (some 4) rfl rfl func28 zY1 rfl #[.agg #[.string ag,.string ah]] rfl zY0 ?_;(with_reducible refine(ybd.calls k ag ah fK _ zg A2.out).mono ?_);rintro e w5 ⟨rfl,hb⟩;refine⟨_,rfl,?_⟩;replace bC:=zA (zq1 (zK bC.out) hb);replace HB:=zhb hb;clear hb))
 go_ret;exact⟨zT,zB⟩
end Go.Proofs.YtjdpdkdhfnpcgaaGreatDoor.Q
namespace Go.Proofs.YtjdpdkdhfnpcgaaGreatDoor.Q
open Go.RowKit Go.Proofs.YtjdpdkdhfnpcgaaGreatDoorW.PrintWords Go.Proofs.YtjdpdkdhfnpcgaaGreatDoorW.PrintLast Go.Proofs.YtjdpdkdhfnpcgaaGreatDoorW.PrintMore Tryz
attribute [local go_sem] max2_int min2_int max_two min_two max_three min_three max_four min_four
set_option linter.unusedVariables false
set_option linter.unusedSimpArgs false
def yab.l0:Nat→List (S24)→Int→Int→Option (Int)
 | 0,_,_,_=>none
 | k+1,x0,x7,x8=>if x8<x7 then(if 0≤x8 then(if x8<(x0.length:Int)then((ybs.f k ((zq13 x0 x8).f0) ((zq13 x0 x8).f1)).bind fun nw=>(if nw=true then(some x8)else(yab.l0 k x0 x7 (wrap64 (x8+1)))))else(none))else(none))else(some (-1))
def yab.f (k:Nat)(l0:List (S24)) :Option (Int):=yab.l0 k l0 (l0.length:Int) 0
theorem yab.calls (k:Nat)(A0:Option Addr)(c0:Nat)(l0:List (S24))  (r:Int)(w:World)(cD:Kd.C k24 w A0 l0.length l0)(dz:l0.length≤c0)(hG:GOK w)(h:yab.f k l0=some r) :
 Calls prog 112 #[.slice A0 l0.length c0,.func (.func 65) #[] #[]] w fun e w'=>e=.returned (.int .i64 r)∧Below w.heap.size w w':=by
 have hu24:=underlying24;have dL:=zA cD;have fX:=zA dz;clear cD dz;have HG:=zA hG;clear hG;have HB:=zA (Below.refl w.heap.size w);have H:=h;clear h;unfold yab.f at H;have H':=zA H;clear H;go_enter func112,ntmps112;go_wp2;go_loopg [8] k (fun kq v8 w'=>∃(bf:Int),v8=.int .i64 bf∧Aside0 (yab.l0 kq l0 (l0.length:Int) bf=some r)∧Aside0 (kq≤k)∧Aside0 (Below w.heap.size w w'))
 case atStart=>exact⟨(0),zY3,H',⟨Nat.le_refl _⟩,⟨zB⟩⟩
 case round =>
  clear H';obtain⟨bf,rfl,HA,HK1,HB⟩:=hrel;cases gk with
  | zero=>exact absurd HA.out (by simp[yab.l0])
  | succ k1 =>
   have H:=HA.out;clear HA;simp only[yab.l0]at H;replace H:=zf H zkNd zkd;obtain⟨c3b0,H⟩|⟨c3b0,H⟩:=H
   ·obtain rfl:=zs H;go_wp2;go_ret;exact⟨zT,zB⟩
   replace H:=zp H zkd;obtain⟨c4b0,H⟩:=H;replace H:=zp H zkd;obtain⟨c5b0,H⟩:=H;replace H:=zM H;obtain⟨nw,A6,H⟩:=H;replace H:=zbp H;obtain⟨rfl,H⟩|⟨rfl,H⟩:=H
   ·obtain rfl:=zs H;have qn:0≤(bf:Int):=zw;have qo:bf<(l0.length:Int):=zw;obtain⟨Lh,BL,qp,qq⟩:=at_T24 dL.out bf qn qo;cases BL;replace qp:=(HB.out.cell (World.block_lt_of_cell? w _ qp)).trans qp;replace qq:=(HB.out.cell (World.block_lt_of_cell? w _ qq)).trans qq;replace qn:=eq_true qn;replace qo:=eq_true qo;(go_wp2_with (first|(go_at_call 65;(with_reducible refine(ybs.calls k1 ((zq13 l0 bf).f0) ((zq13 l0 bf).f1) true _ zg A6.out).mono ?_);rintro e w8 ⟨rfl,hb⟩;replace HB:=zhb hb;clear hb)));go_ret;exact⟨zT,zB⟩
   have H':=zA H;clear H;have qn:0≤(bf:Int):=zw;have qo:bf<(l0.length:Int):=zw;obtain⟨Lh,BL,qp,qq⟩:=at_T24 dL.out bf qn qo;cases BL;replace qp:=(HB.out.cell (World.block_lt_of_cell? w _ qp)).trans qp;replace qq:=(HB.out.cell (World.block_lt_of_cell? w _ qq)).trans qq;replace qn:=eq_true qn;replace qo:=eq_true qo;(go_wp2_with (first|(go_at_call 65;(with_reducible refine(ybs.calls k1 ((zq13 l0 bf).f0) ((zq13 l0 bf).f1) false _ zg A6.out).mono ?_);rintro e w9 ⟨rfl,hb⟩;replace HB:=zhb hb;clear hb)));go_roundg k1;(case measure=>have:=HK1.out;omega);case rel=>exact⟨(wrap64 (bf+1)),zY3,H',⟨by have:=HK1.out;omega⟩,⟨zB⟩⟩
def yak.f (k:Nat)(l0:List (S24)) :Option (Bool):=(yab.f k l0).bind fun dW=>(some (decide (dW≥0)))
theorem yak.calls (k:Nat)(A0:Option Addr)(c0:Nat)(l0:List (S24))  (r:Bool)(w:World)(cD:Kd.C k24 w A0 l0.length l0)(dz:l0.length≤c0)(hG:GOK w)(h:yak.f k l0=some r) :
 Calls prog 67 #[.slice A0 l0.length c0,.func (.func 65) #[] #[]] w fun e w'=>e=.returned (.bool r)∧Below w.heap.size w w':=by
 have dL:=zA cD;have fX:=zA dz;clear cD dz;have HG:=zA hG;clear hG;have HB:=zA (Below.refl w.heap.size w);have H:=h;clear h;unfold yak.f at H;obtain⟨dW,A3,H⟩:=zM H;obtain rfl:=zs H;go_enter func67,ntmps67;go_wp2_with (first|((with_reducible refine zq2 (f:=112) rfl ?_);refine zq7 (some 7) rfl rfl func112 zY1 rfl #[.slice A0 l0.length c0,.func (.func 65) #[] #[]] rfl zY0 ?_;(with_reducible refine(yab.calls k _ _ l0  dW _ ?side1 ?side2 zg A3.out).mono ?_);(case side1=>exact zC dL.out);(case side2=>exact fX.out);rintro e w4 ⟨rfl,hb⟩;refine⟨_,rfl,?_⟩;replace HB:=zhb hb;clear hb))
 go_ret;exact⟨zT,zB⟩
def ya7.l0:Nat→ByteArray→Int→Int→Option (Bool)
 | 0,_,_,_=>none
 | k+1,x0,x5,x6=>if x6<x5 then(if 0≤x6 then(if x6<(x0.size:Int)then(if(bt x0 x6)<32 then(some false)else(if(bt x0 x6)>126 then(some false)else(ya7.l0 k x0 x5 (wrap64 (x6+1)))))else(none))else(none))else(some (decide ((x0.size:Int)≤40)))
def ya7.f (k:Nat)(a0:ByteArray):Option (Bool):=ya7.l0 k a0 (a0.size:Int) 0
theorem ya7.calls (k:Nat)(a0:ByteArray)(r:Bool)(w:World)(h:ya7.f k a0=some r) :
 Calls prog 115 #[.string a0] w fun e w'=>e=.returned (.bool r)∧Drawn0 w w':=by
 have H:=h;clear h;unfold ya7.f at H;have H':=zA H;clear H;go_enter func115,ntmps115;go_wp2;go_loopg [6] k (fun kq v6 w'=>∃(bG:Int),v6=.int .i64 bG∧Aside0 (ya7.l0 kq a0 (a0.size:Int) bG=some r)∧Aside0 (kq≤k)∧Drawn0 w w')
 case atStart=>exact⟨(0),zY3,H',⟨Nat.le_refl _⟩,by repeat(first|exact Drawn0.refl _|apply Drawn0.step)⟩
 case round =>
  clear H';obtain⟨bG,rfl,HA,HK1,⟨m1,rfl⟩⟩:=hrel;cases gk with
  | zero=>exact absurd HA.out (by simp[ya7.l0])
  | succ k1 =>
   have H:=HA.out;clear HA;simp only[ya7.l0]at H;obtain⟨c2b0,H⟩|⟨c2b0,H⟩:=zf H zkNd zkd
   ·obtain rfl:=zs H;go_wp2;go_ret;exact⟨by first|rfl|(simp;done)|(simp[*];done),by repeat(first|exact Drawn0.refl _|apply Drawn0.step)⟩
   obtain⟨c3b0,H⟩:=zp H zkd;obtain⟨c4b0,H⟩:=zp H zkd;obtain⟨c6b0,H⟩|⟨c6b0,H⟩:=zh H zkd zkNd
   ·obtain rfl:=zs H;have p5:0≤(bG:Int):=zw;have q5:bG<(a0.size:Int):=zw;have Ge:=bt_at a0 bG;replace p5:=eq_true p5;replace q5:=eq_true q5;go_wp2;go_ret;exact⟨by first|rfl|(simp;done)|(simp[*];done),by repeat(first|exact Drawn0.refl _|apply Drawn0.step)⟩
   obtain⟨c8b0,H⟩|⟨c8b0,H⟩:=zh H zkGg zkGNg
   ·obtain rfl:=zs H;have p5:0≤(bG:Int):=zw;have q5:bG<(a0.size:Int):=zw;have Ge:=bt_at a0 bG;replace p5:=eq_true p5;replace q5:=eq_true q5;have p7:0≤(bG:Int):=zw;have q7:bG<(a0.size:Int):=zw;have xl:=bt_at a0 bG;replace p7:=eq_true p7;replace q7:=eq_true q7;go_wp2;go_ret;exact⟨by first|rfl|(simp;done)|(simp[*];done),by repeat(first|exact Drawn0.refl _|apply Drawn0.step)⟩
   have H':=zA H;clear H;have p5:0≤(bG:Int):=zw;have q5:bG<(a0.size:Int):=zw;have Ge:=bt_at a0 bG;replace p5:=eq_true p5;replace q5:=eq_true q5;have p7:0≤(bG:Int):=zw;have q7:bG<(a0.size:Int):=zw;have xl:=bt_at a0 bG;replace p7:=eq_true p7;replace q7:=eq_true q7;go_wp2;go_roundg k1;(case measure=>have:=HK1.out;omega);case rel=>exact⟨(wrap64 (bG+1)),zY3,H',⟨by have:=HK1.out;omega⟩,by repeat(first|exact Drawn0.refl _|apply Drawn0.step)⟩
def ybm.f (k:Nat)(a0:ByteArray):Option (Bool):=(ya7.f k a0).bind fun dk=>(some (!dk))
theorem ybm.calls (k:Nat)(a0:ByteArray)(r:Bool)(w:World)(h:ybm.f k a0=some r) :
 Calls prog 114 #[.string a0] w fun e w'=>e=.returned (.bool r)∧Drawn0 w w':=by
 have H:=h;clear h;unfold ybm.f at H;obtain⟨dk,A2,H⟩:=zM H;obtain rfl:=zs H;go_enter func114,ntmps114;go_wp2_with (first|((with_reducible refine zq2 (f:=115) rfl ?_);refine zq7 (some 4) rfl rfl func115 zY1 rfl #[.string a0] rfl zY0 ?_;(with_reducible refine(ya7.calls k a0 dk _ A2.out).mono ?_);rintro e w' ⟨rfl,⟨nd,rfl⟩⟩;refine⟨_,rfl,?_⟩))
 go_ret;exact⟨by first|rfl|(simp;done)|(simp[*];done),by repeat(first|exact Drawn0.refl _|apply Drawn0.step)⟩
def yad.l0:Nat→List ByteArray→Int→Int→Option (Int)
 | 0,_,_,_=>none
 | k+1,x0,x7,x8=>if x8<x7 then(if 0≤x8 then(if x8<(x0.length:Int)then((ybm.f k (rdOf ByteArray.empty x0 x8)).bind fun fc=>(if fc=true then(some x8)else(yad.l0 k x0 x7 (wrap64 (x8+1)))))else(none))else(none))else(some (-1))
def yad.f (k:Nat)(l0:List ByteArray) :Option (Int):=yad.l0 k l0 (l0.length:Int) 0
theorem yad.calls (k:Nat)(A0:Option Addr)(c0:Nat)(l0:List ByteArray)  (r:Int)(w:World)(cD:Kd.C Kd.string w A0 l0.length l0)(dz:l0.length≤c0)(h:yad.f k l0=some r) :
 Calls prog 148 #[.slice A0 l0.length c0,.func (.func 114) #[] #[]] w fun e w'=>e=.returned (.int .i64 r)∧Drawn0 w w':=by
 have dL:=zA cD;have fX:=zA dz;clear cD dz;have H:=h;clear h;unfold yad.f at H;have H':=zA H;clear H;go_enter func148,ntmps148;go_wp2;go_loopg [8] k (fun kq v8 w'=>∃(bf:Int),v8=.int .i64 bf∧Aside0 (yad.l0 kq l0 (l0.length:Int) bf=some r)∧Aside0 (kq≤k)∧Drawn0 w w')
 case atStart=>exact⟨(0),zY3,H',⟨Nat.le_refl _⟩,by repeat(first|exact Drawn0.refl _|apply Drawn0.step)⟩
 case round =>
  clear H';obtain⟨bf,rfl,HA,HK1,⟨m1,rfl⟩⟩:=hrel;cases gk with
  | zero=>exact absurd HA.out (by simp[yad.l0])
  | succ k1 =>
   have H:=HA.out;clear HA;simp only[yad.l0]at H;replace H:=zf H zkNd zkd;obtain⟨c3b0,H⟩|⟨c3b0,H⟩:=H
   ·obtain rfl:=zs H;go_wp2;go_ret;exact⟨by first|rfl|(simp;done)|(simp[*];done),by repeat(first|exact Drawn0.refl _|apply Drawn0.step)⟩
   replace H:=zp H zkd;obtain⟨c4b0,H⟩:=H;replace H:=zp H zkd;obtain⟨c5b0,H⟩:=H;replace H:=zM H;obtain⟨fc,A6,H⟩:=H;replace H:=zbp H;obtain⟨rfl,H⟩|⟨rfl,H⟩:=H
   ·obtain rfl:=zs H;have qr:0≤(bf:Int):=zw;have qt:bf<(l0.length:Int):=zw;obtain⟨Li,BM,Lj⟩:=Kd.z16 dL.out bf qr qt;cases BM;replace qr:=eq_true qr;replace qt:=eq_true qt;(go_wp2_with (first|(go_at_call 114;(with_reducible refine(ybm.calls k1 (rdOf ByteArray.empty l0 bf) true _ A6.out).mono ?_);rintro e w' ⟨rfl,⟨nd,rfl⟩⟩)));go_ret;exact⟨by first|rfl|(simp;done)|(simp[*];done),by repeat(first|exact Drawn0.refl _|apply Drawn0.step)⟩
   have H':=zA H;clear H;have qr:0≤(bf:Int):=zw;have qt:bf<(l0.length:Int):=zw;obtain⟨Li,BM,Lj⟩:=Kd.z16 dL.out bf qr qt;cases BM;replace qr:=eq_true qr;replace qt:=eq_true qt;(go_wp2_with (first|(go_at_call 114;(with_reducible refine(ybm.calls k1 (rdOf ByteArray.empty l0 bf) false _ A6.out).mono ?_);rintro e w' ⟨rfl,⟨nd,rfl⟩⟩)));go_roundg k1;(case measure=>have:=HK1.out;omega);case rel=>exact⟨(wrap64 (bf+1)),zY3,H',⟨by have:=HK1.out;omega⟩,by repeat(first|exact Drawn0.refl _|apply Drawn0.step)⟩
def yaD.f (k:Nat)(l0:List ByteArray) :Option (Bool):=(yad.f k l0).bind fun nw=>(some (decide (nw≥0)))
theorem yaD.calls (k:Nat)(A0:Option Addr)(c0:Nat)(l0:List ByteArray)  (r:Bool)(w:World)(cD:Kd.C Kd.string w A0 l0.length l0)(dz:l0.length≤c0)(h:yaD.f k l0=some r) :
 Calls prog 113 #[.slice A0 l0.length c0,.func (.func 114) #[] #[]] w fun e w'=>e=.returned (.bool r)∧Drawn0 w w':=by
 have dL:=zA cD;have fX:=zA dz;clear cD dz;have H:=h;clear h;unfold yaD.f at H;obtain⟨nw,A3,H⟩:=zM H;obtain rfl:=zs H;go_enter func113,ntmps113;go_wp2_with (first|((with_reducible refine zq2 (f:=148) rfl ?_);refine zq7 (some 7) rfl rfl func148 zY1 rfl #[.slice A0 l0.length c0,.func (.func 114) #[] #[]] rfl zY0 ?_;(with_reducible refine(yad.calls k _ _ l0  nw _ ?side1 ?side2 A3.out).mono ?_);(case side1=>exact zC dL.out);(case side2=>exact fX.out);rintro e w' ⟨rfl,⟨nd,rfl⟩⟩;refine⟨_,rfl,?_⟩))
 go_ret;exact⟨by first|rfl|(simp;done)|(simp[*];done),by repeat(first|exact Drawn0.refl _|apply Drawn0.step)⟩
end Go.Proofs.YtjdpdkdhfnpcgaaGreatDoor.Q
namespace Go.Proofs.YtjdpdkdhfnpcgaaGreatDoor.Q
open Go.RowKit Go.Proofs.YtjdpdkdhfnpcgaaGreatDoorW.PrintWords Go.Proofs.YtjdpdkdhfnpcgaaGreatDoorW.PrintLast Go.Proofs.YtjdpdkdhfnpcgaaGreatDoorW.PrintMore
open Go.Maps Go.WideMaps
set_option linter.unusedVariables false
set_option linter.unusedSimpArgs false
abbrev DA:=S24
theorem dLaidOut:laidOutB Tryz.prog=true:=by kernel_rfl
theorem dRow:(24:TypeId) < Tryz.prog.types.size:=of_decide_eq_true zok
theorem dCells:Tryz.prog.cellsOf 24=2:=by kernel_rfl
theorem dWide:(match Tryz.prog.underlying 24 with|some (.array _ _)|some (.struct _)=>true|_=>false)=true:=by rw[Tryz.underlying24]
theorem dLaw:KeyLaw Tryz.prog 24:=deep_law_laid dLaidOut (m:=2) zoo dRow zok dWide
theorem dKeyed:Keyed Tryz.prog 24:=Keyed.of_law dLaw
def klA (x:DA):Lit:=.string (keyBytes [.string x.f0.data.toList,.string x.f1.data.toList])
theorem keyLits_str (d:Nat){s:ByteArray}(hs:s.size≤maxLen):Tryz.prog.keyLits (d+1) 9 [.string s]=some [.string s.data.toList]:=by
 unfold Program.keyLits;rw[Tryz.underlying9];simp[hs]
theorem keyOfA {x:DA}(h0:x.f0.size≤maxLen)(h1:x.f1.size≤maxLen):keyOf Tryz.prog 24 (.agg #[.string x.f0,.string x.f1])=some (klA x):=by
 have hk:Tryz.prog.keyType 24=true:=by kernel_rfl
 have hf:(Value.agg #[.string x.f0,.string x.f1]).formed Tryz.prog 24=true:=by simp[Value.formed,Tryz.underlying24,dCells]
 have hs:Tryz.prog.cellsOf 9=1:=by kernel_rfl
 obtain⟨m,hm⟩:∃ m,Tryz.prog.types.size+1=m+2:=by
  cases h:Tryz.prog.types.size with
  | zero=>have:=dRow;rw[h]at this;exact absurd this (Nat.not_lt_zero _)
  | succ n=>exact⟨n,rfl⟩
 unfold keyOf;rw[Tryz.underlying24];simp only[hk,hf,Bool.and_self,if_true];rw[hm];unfold Program.keyLits;rw[Tryz.underlying24];simp[Value.cells,dCells,hs,keyLits_str m h0,keyLits_str m h1,klA]
def sA {H:Type}(l:List DA)(k:Nat):DataW H:=setOf (.lit (.bool true)) ((l.take k).map klA)
theorem sA_succ {H:Type}(l:List DA)(k:Nat)(hk:k<l.length):sA (H:=H) l (k+1)=(sA l k).put (klA l[k]) (.lit (.bool true)):=by
 unfold sA;rw[List.take_succ_eq_append_getElem hk,List.map_append,List.map_singleton,setOf_snoc]
theorem sA_zero {H:Type}(l:List DA):sA (H:=H) l 0=.map []:=by simp[sA,setOf]
theorem dRd (l:List DA)(i:Nat)(h:i<l.length):zq13 l (i:Int)=l[i]:=by
 unfold zq13;rw[Int.toNat_natCast,List.getD_eq_getElem?_getD,List.getElem?_eq_getElem h];rfl
theorem distinct_walk (A0:Option Addr)(c0:Nat)(l0:List DA)(w:World)(hr0:Kd.C k24 w A0 l0.length l0)(hc0:l0.length≤c0)(hlen:l0.length<maxLen)
 (hsz:∀ x∈l0,x.f0.size≤maxLen∧x.f1.size≤maxLen) :
 Calls Tryz.prog 68 #[.slice A0 l0.length c0] w fun e w'=>e=.returned (.bool ((Maps.size (sA (H:=Unit) l0 l0.length):Int)==(l0.length:Int)))∧Below w.heap.size w w':=by
 have hmm:=@run_makeMap Tryz.prog;have hR:=Aside0.mk hr0;have hm:l0.length≤9223372036854775807:=hr0.2.1;clear hr0;go_enter Tryz.func68,Tryz.ntmps68;go_wp2;go_loopw [9] (fun i wr=>∃ k:Nat,k≤l0.length∧i=.int .i64 k∧wr.ownsMap Tryz.prog 24 (plainElem Tryz.prog 4) w.heap.size k (sA (H:=Unit) l0 k)∧Below w.heap.size w wr)
  (fun i _=>l0.length - (intOf i).toNat)
 case atStart=>exact⟨0,Nat.zero_le _,rfl,by rw[sA_zero];exact World.ownsMap_made _ _ _ _,(Below.refl _ _).alloc (Nat.le_refl _) _⟩
 case round =>
  obtain⟨k,hk,rfl,hown,hnx⟩:=hrel;by_cases hlt:k<l0.length
  ·obtain⟨ad,e,hx0,hx1⟩:=at_T24 hR.out (k:Int) zoo zoo;cases e;rw[dRd l0 k hlt]at hx0 hx1;have hz:=hsz l0[k] (List.getElem_mem hlt);have hkey:=keyOfA hz.1 hz.2;replace hx0:=(hnx.cell (World.block_lt_of_cell? w _ hx0)).trans hx0;replace hx1:=(hnx.cell (World.block_lt_of_cell? w _ hx1)).trans hx1;rw[Int.toNat_natCast]at hx0 hx1;go_wp2_with (first
    | (at_mapUpdate;refine wpList_mapUpdate_own _ rfl _ _ _ 132 rfl 24 4 dKeyed Tryz.underlying132 (plainElem (H:=Unit) Tryz.prog 4) w.heap.size k (sA l0 k) rfl (hown.alloc _) zoo _ _ _ rfl rfl hkey _ [] (plainElem_bool Tryz.underlying4 true) ?_;intro w1 hown1 hgrow1)
    | go_in)
   go_roundw;(case rel=>exact⟨k+1,by omega,by go_num,(sA_succ l0 k hlt).symm ▸ hown1,(hnx.alloc hnx.size _).grown hgrow1 (by simp;have:=hnx.size;omega) (fun j hj=>by cases hj;exact Nat.le_refl _)⟩);case measure=>simp[intOf];omega
  ·(have hkl:k=l0.length:=by omega);subst hkl;go_wp2_with (first
    | (at_len;refine wpList_len_own _ rfl _ 132 rfl 24 4 Tryz.underlying132 _ w.heap.size _ _ rfl hown ?_)
    | go_in)
   go_ret;exact⟨rfl,hnx⟩
theorem klA_key (x:DA):WideAt.IsKeyLit (klA x):=trivial
theorem klA_inj {x y:DA}(hx:x.f0.size≤maxLen∧x.f1.size≤maxLen)(hy:y.f0.size≤maxLen∧y.f1.size≤maxLen)(h:klA x=klA y):(x.f0,x.f1)=(y.f0,y.f1):=by
 have:=dLaw.inj (keyOfA hx.1 hx.2) (by rw[h];exact keyOfA hy.1 hy.2);simpa using this
theorem sA_keys (l:List DA)(k:Nat):∀ x∈(l.take k).map klA,WideAt.IsKeyLit x:=fun x hx=>by
 obtain⟨y,_,rfl⟩:=List.mem_map.1 hx
 exact klA_key y
theorem sA_has (l:List DA)(k:Nat)(x:DA):Maps.has (sA (H:=Unit) l k) (klA x)=true↔klA x∈(l.take k).map klA:=by
 unfold sA;rw[has_setOf _ _ _ (sA_keys l k),List.any_eq_true];constructor
 ·rintro⟨y,hy,e⟩;rw[← WideAt.sameKey_eq e];exact hy
 ·intro h;exact⟨_,h,WideAt.sameKey_self (klA_key x)⟩
theorem sA_size (l:List DA):∀ k,k≤l.length→Maps.size (sA (H:=Unit) l k)≤k∧(Maps.size (sA (H:=Unit) l k)=k↔((l.take k).map klA).Nodup):=by
 intro k;induction k with
 | zero=>intro _;rw[sA_zero];exact⟨Nat.le_refl _,by simp[Maps.size]⟩
 | succ k ih =>
  intro hk;obtain⟨h1,h2⟩:=ih zoo;have htidy:Tidy (sA (H:=Unit) l k):=tidy_fold _ _ _ tidy_empty (sA_keys l k);rw[sA_succ l k zoo,size_put htidy,List.take_succ_eq_append_getElem zoo,List.map_append,List.map_singleton];by_cases hh:Maps.has (sA (H:=Unit) l k) (klA l[k])=true
  ·rw[if_pos hh];have hmem:=(sA_has l k l[k]).1 hh;refine⟨by omega,⟨fun e=>by omega,fun e=>?_⟩⟩;rw[List.nodup_append]at e;exact absurd rfl (e.2.2 _ hmem _ (List.mem_singleton.2 rfl))
  ·rw[if_neg hh];have hmem:klA l[k]∉(l.take k).map klA:=fun q=>hh ((sA_has l k l[k]).2 q);refine⟨by omega,⟨fun e=>?_,fun e=>?_⟩⟩
   ·rw[List.nodup_append];refine⟨h2.1 zoo,by simp,fun a ha b hb=>?_⟩;rw[List.mem_singleton.1 hb];rintro rfl;exact hmem ha
   ·rw[List.nodup_append]at e;have:=h2.2 e.1;omega
def pairsA (l:List DA):List (ByteArray × ByteArray):=l.map fun x=>(x.f0,x.f1)
theorem nodup_keys (l:List DA)(hsz:∀ x∈l,x.f0.size≤maxLen∧x.f1.size≤maxLen):(l.map klA).Nodup↔(pairsA l).Nodup:=by
 unfold pairsA;induction l with
 | nil=>simp
 | cons x l ih =>
  rw[List.map_cons,List.map_cons,List.nodup_cons,List.nodup_cons,ih (fun y hy=>hsz y (List.mem_cons_of_mem _ hy))];have:klA x∈l.map klA↔(x.f0,x.f1)∈l.map (fun x=>(x.f0,x.f1)):=by
   constructor
   ·intro h;obtain⟨y,hy,e⟩:=List.mem_map.1 h;exact List.mem_map.2 ⟨y,hy,klA_inj (hsz y (List.mem_cons_of_mem _ hy)) (hsz x (List.mem_cons_self ..)) e⟩
   ·intro h;obtain⟨y,hy,e⟩:=List.mem_map.1 h;refine List.mem_map.2 ⟨y,hy,?_⟩;unfold klA;rw[(Prod.mk.inj e).1,(Prod.mk.inj e).2]
  rw[this]
def yaP.f (l0:List DA):Option Bool :=
 if(∀ x∈l0,x.f0.size≤maxLen∧x.f1.size≤maxLen)∧l0.length<maxLen then some (decide (pairsA l0).Nodup)else none
theorem yaP.calls (A0:Option Addr)(c0:Nat)(l0:List DA)(r:Bool)(w:World)(hr0:Kd.C k24 w A0 l0.length l0)(hc0:l0.length≤c0)(h:yaP.f l0=some r) :
 Calls Tryz.prog 68 #[.slice A0 l0.length c0] w fun e w'=>e=.returned (.bool r)∧Below w.heap.size w w':=by
 unfold yaP.f at h;split at h
 ·rename_i hs;injection h with h;subst h;refine(distinct_walk A0 c0 l0 w hr0 hc0 hs.2 hs.1).mono ?_;rintro e w' ⟨rfl,hb⟩;refine⟨?_,hb⟩;congr 2;obtain⟨_,h2⟩:=sA_size l0 l0.length (Nat.le_refl _);rw[List.take_length,nodup_keys l0 hs.1]at h2;rw[Bool.eq_iff_iff,beq_iff_eq,decide_eq_true_eq,← h2];omega
 ·cases h
end Go.Proofs.YtjdpdkdhfnpcgaaGreatDoor.Q
namespace Go.Proofs.YtjdpdkdhfnpcgaaGreatDoor.Q
open Go.RowKit Go.Proofs.YtjdpdkdhfnpcgaaGreatDoorW.PrintWords Go.Proofs.YtjdpdkdhfnpcgaaGreatDoorW.PrintLast Go.Proofs.YtjdpdkdhfnpcgaaGreatDoorW.PrintMore Tryz
attribute [local go_sem] max2_int min2_int max_two min_two max_three min_three max_four min_four
set_option linter.unusedVariables false
set_option linter.unusedSimpArgs false
def ybf.f (k:Nat)(l0:List ByteArray):Option (Bool):=if(l0.length:Int)≤12 then((yaD.f k l0).bind fun dW=>(some (!dW)))else(some false)
theorem ybf.calls (k:Nat)(A0:Option Addr)(c0:Nat)(l0:List ByteArray)(r:Bool)(w:World)(cD:Kd.C Kd.string w A0 l0.length l0)(dz:l0.length≤c0)(h:ybf.f k l0=some r) :
 Calls prog 69 #[.slice A0 l0.length c0] w fun e w'=>e=.returned (.bool r)∧Drawn0 w w':=by
 have dL:=zA cD;have fX:=zA dz;clear cD dz;have H:=h;clear h;unfold ybf.f at H;obtain⟨⟨c2b0,c2⟩,H⟩|⟨⟨c2b0,c2⟩,H⟩:=zf H zkNdk zkdk
 ·have c2b1:decide (l0.length≤12)=false:=decide_eq_false zY7;clear c2;obtain rfl:=zs H;go_enter func69,ntmps69;go_wp2;go_ret;exact⟨by first|rfl|(simp;done)|(simp[*];done),by repeat(first|exact Drawn0.refl _|apply Drawn0.step)⟩
 have c2b1:decide (l0.length≤12)=true:=decide_eq_true zY7;clear c2;obtain⟨dW,A3,H⟩:=zM H;obtain rfl:=zs H;go_enter func69,ntmps69;go_wp2_with (first|(go_at_call 113;(with_reducible refine(yaD.calls k _ _ l0  dW _ ?side1 ?side2 A3.out).mono ?_);(case side1=>exact zC dL.out);(case side2=>exact fX.out);rintro e w' ⟨rfl,⟨nd,rfl⟩⟩))
 go_ret;exact⟨by first|rfl|(simp;done)|(simp[*];done),by repeat(first|exact Drawn0.refl _|apply Drawn0.step)⟩
def yba.f (k:Nat)(ag:ByteArray)(ah:ByteArray)(az:List (S24))(bb:List ByteArray):Option (Bool):=(yaE.f k ag ah).bind fun kB=>(if kB=true then((yaO.f (az.length:Int) 1 4).bind fun gK=>(if gK=true then((yak.f k az).bind fun iD=>(if iD=true then(some false)else((yaP.f az).bind fun dy=>(if dy=true then((ybf.f k bb).bind fun iZ=>(some iZ))else(some false)))))else(some false)))else(some false))
theorem yba.calls (k:Nat)(ag:ByteArray)(ah:ByteArray)(du:Option Addr)(dh:Nat)(az:List (S24))(cB:Option Addr)(cC:Nat)(bb:List ByteArray)(r:Bool)(w:World)(iE:Kd.C k24 w du az.length az)(iF:az.length≤dh)(gL:Kd.C Kd.string w cB bb.length bb)(gM:bb.length≤cC)(hG:GOK w)(h:yba.f k ag ah az bb=some r) :
 Calls prog 30 #[.agg #[.string ag,.string ah,.slice du az.length dh,.slice cB bb.length cC]] w fun e w'=>e=.returned (.bool r)∧Below w.heap.size w w':=by
 have hu28:=underlying28;have hu24:=underlying24;have fY:=zA iE;have jI:=zA iF;clear iE iF;have gw:=zA gL;have iq:=zA gM;clear gL gM;have HG:=zA hG;clear hG;have HB:=zA (Below.refl w.heap.size w);have H:=h;clear h;unfold yba.f at H;replace H:=zM H;obtain⟨kB,A2,H⟩:=H;replace H:=zb H;obtain⟨rfl,H⟩|⟨rfl,H⟩:=H
 ·obtain rfl:=zs H;go_enter func30,ntmps30;(go_wp2_with (first|((with_reducible refine zq6 (N:=1) rfl ?_);(try(refine gate_guard zY19 ?_;dsimp only));refine zEa (N:=1) (cs:=#[.string ag,.string ah,.slice du az.length dh,.slice cB bb.length cC]) (t:=28) ?_;intro gN hg ql cd hb;have si:=zA (zS hg:w.heap.size≤gN);have sj:=zA (zS hg:w.heap.size≤gN);replace HB:=zhb hb;clear hb hg;obtain⟨_,_,_,_⟩:=zc4 cd.out;obtain⟨_,_,_,_⟩:=zf4 cd.out)|((with_reducible refine zq2 (f:=66) rfl ?_);refine zq7 (some 6) rfl rfl func66 zY1 rfl #[.agg #[.string ag,.string ah]] rfl zY0 ?_;(with_reducible refine(yaE.calls k ag ah false _ zg A2.out).mono ?_);rintro e xk ⟨rfl,hb⟩;refine⟨_,rfl,?_⟩;replace cd:=zA (zq1 (zK cd.out) hb);replace HB:=zhb hb;clear hb)));go_ret;exact⟨zT,zB⟩
 replace H:=zM H;obtain⟨gK,A4,H⟩:=H;replace H:=zb H;obtain⟨rfl,H⟩|⟨rfl,H⟩:=H
 ·obtain rfl:=zs H;go_enter func30,ntmps30;(go_wp2_with (first|((with_reducible refine zq6 (N:=1) rfl ?_);(try(refine gate_guard zY19 ?_;dsimp only));refine zEa (N:=1) (cs:=#[.string ag,.string ah,.slice du az.length dh,.slice cB bb.length cC]) (t:=28) ?_;intro gN hg nx cd hb;have si:=zA (zS hg:w.heap.size≤gN);have sj:=zA (zS hg:w.heap.size≤gN);replace HB:=zhb hb;clear hb hg;obtain⟨_,_,_,_⟩:=zc4 cd.out;obtain⟨_,_,_,_⟩:=zf4 cd.out)|((with_reducible refine zq2 (f:=66) rfl ?_);refine zq7 (some 6) rfl rfl func66 zY1 rfl #[.agg #[.string ag,.string ah]] rfl zY0 ?_;(with_reducible refine(yaE.calls k ag ah true _ zg A2.out).mono ?_);rintro e gb ⟨rfl,hb⟩;refine⟨_,rfl,?_⟩;replace cd:=zA (zq1 (zK cd.out) hb);replace HB:=zhb hb;clear hb;obtain⟨_,_,_,_⟩:=zc4 cd.out;obtain⟨_,_,_,_⟩:=zf4 cd.out)|(go_at_call 27;(with_reducible refine(yaO.calls (az.length:Int) 1 4 false _ A4.out).mono ?_);rintro e w' ⟨rfl,⟨nd,rfl⟩⟩)));go_ret;exact⟨zT,zB⟩
 replace H:=zM H;obtain⟨iD,A6,H⟩:=H;replace H:=zbp H;obtain⟨rfl,H⟩|⟨rfl,H⟩:=H
 ·obtain rfl:=zs H;go_enter func30,ntmps30;(go_wp2_with (first|((with_reducible refine zq6 (N:=1) rfl ?_);(try(refine gate_guard zY19 ?_;dsimp only));refine zEa (N:=1) (cs:=#[.string ag,.string ah,.slice du az.length dh,.slice cB bb.length cC]) (t:=28) ?_;intro gN hg w8 cd hb;have si:=zA (zS hg:w.heap.size≤gN);have sj:=zA (zS hg:w.heap.size≤gN);replace HB:=zhb hb;clear hb hg;obtain⟨_,_,_,_⟩:=zc4 cd.out;obtain⟨_,_,_,_⟩:=zf4 cd.out)|((with_reducible refine zq2 (f:=66) rfl ?_);refine zq7 (some 6) rfl rfl func66 zY1 rfl #[.agg #[.string ag,.string ah]] rfl zY0 ?_;(with_reducible refine(yaE.calls k ag ah true _ zg A2.out).mono ?_);rintro e eI ⟨rfl,hb⟩;refine⟨_,rfl,?_⟩;replace cd:=zA (zq1 (zK cd.out) hb);replace HB:=zhb hb;clear hb;obtain⟨_,_,_,_⟩:=zc4 cd.out;obtain⟨_,_,_,_⟩:=zf4 cd.out)|(go_at_call 27;(with_reducible refine(yaO.calls (az.length:Int) 1 4 true _ A4.out).mono ?_);rintro e w' ⟨rfl,⟨nd,rfl⟩⟩)|(go_at_call 67;(with_reducible refine(yak.calls k _ _ az  true _ ?side1 ?side2 zg A6.out).mono ?_);(case side1=>exact zC (Kd.z0 fY.out zB));(case side2=>exact jI.out);rintro e fe ⟨rfl,hb⟩;replace cd:=zA (zq1 (zK cd.out) hb);replace HB:=zhb hb;clear hb)));go_ret;exact⟨zT,zB⟩
 replace H:=zM H;obtain⟨dy,Gf,H⟩:=H;replace H:=zb H;obtain⟨rfl,H⟩|⟨rfl,H⟩:=H
 ·obtain rfl:=zs H;go_enter func30,ntmps30;(go_wp2_with (first|((with_reducible refine zq6 (N:=1) rfl ?_);(try(refine gate_guard zY19 ?_;dsimp only));refine zEa (N:=1) (cs:=#[.string ag,.string ah,.slice du az.length dh,.slice cB bb.length cC]) (t:=28) ?_;intro gN hg sk cd hb;have si:=zA (zS hg:w.heap.size≤gN);have sj:=zA (zS hg:w.heap.size≤gN);replace HB:=zhb hb;clear hb hg;obtain⟨_,_,_,_⟩:=zc4 cd.out;obtain⟨_,_,_,_⟩:=zf4 cd.out)|((with_reducible refine zq2 (f:=66) rfl ?_);refine zq7 (some 6) rfl rfl func66 zY1 rfl #[.agg #[.string ag,.string ah]] rfl zY0 ?_;(with_reducible refine(yaE.calls k ag ah true _ zg A2.out).mono ?_);rintro e Gg ⟨rfl,hb⟩;refine⟨_,rfl,?_⟩;replace cd:=zA (zq1 (zK cd.out) hb);replace HB:=zhb hb;clear hb;obtain⟨_,_,_,_⟩:=zc4 cd.out;obtain⟨_,_,_,_⟩:=zf4 cd.out)|(go_at_call 27;(with_reducible refine(yaO.calls (az.length:Int) 1 4 true _ A4.out).mono ?_);rintro e w' ⟨rfl,⟨nd,rfl⟩⟩)|(go_at_call 67;(with_reducible refine(yak.calls k _ _ az  false _ ?side1 ?side2 zg A6.out).mono ?_);(case side1=>exact zC (Kd.z0 fY.out zB));(case side2=>exact jI.out);rintro e eH ⟨rfl,hb⟩;replace cd:=zA (zq1 (zK cd.out) hb);replace HB:=zhb hb;clear hb;obtain⟨_,_,_,_⟩:=zc4 cd.out;obtain⟨_,_,_,_⟩:=zf4 cd.out)|(go_at_call 68;(with_reducible refine(yaP.calls _ _ az false _ ?side1 ?side2 Gf.out).mono ?_);(case side1=>exact zC (Kd.z0 fY.out HB.out));(case side2=>exact jI.out);rintro e uh ⟨rfl,hb⟩;replace cd:=zA (zq1 (zK cd.out) hb);replace HB:=zhb hb;clear hb)));go_ret;exact⟨zT,zB⟩
 replace H:=zM H;obtain⟨iZ,qu,H⟩:=H;obtain rfl:=zs H;go_enter func30,ntmps30;go_wp2_with (first|((with_reducible refine zq6 (N:=1) rfl ?_);(try(refine gate_guard zY19 ?_;dsimp only));refine zEa (N:=1) (cs:=#[.string ag,.string ah,.slice du az.length dh,.slice cB bb.length cC]) (t:=28) ?_;intro gN hg sg cd hb;have si:=zA (zS hg:w.heap.size≤gN);have sj:=zA (zS hg:w.heap.size≤gN);replace HB:=zhb hb;clear hb hg;obtain⟨_,_,_,_⟩:=zc4 cd.out;obtain⟨_,_,_,_⟩:=zf4 cd.out)|((with_reducible refine zq2 (f:=66) rfl ?_);refine zq7 (some 6) rfl rfl func66 zY1 rfl #[.agg #[.string ag,.string ah]] rfl zY0 ?_;(with_reducible refine(yaE.calls k ag ah true _ zg A2.out).mono ?_);rintro e kW ⟨rfl,hb⟩;refine⟨_,rfl,?_⟩;replace cd:=zA (zq1 (zK cd.out) hb);replace HB:=zhb hb;clear hb;obtain⟨_,_,_,_⟩:=zc4 cd.out;obtain⟨_,_,_,_⟩:=zf4 cd.out)|(go_at_call 27;(with_reducible refine(yaO.calls (az.length:Int) 1 4 true _ A4.out).mono ?_);rintro e w' ⟨rfl,⟨nd,rfl⟩⟩)|(go_at_call 67;(with_reducible refine(yak.calls k _ _ az  false _ ?side1 ?side2 zg A6.out).mono ?_);(case side1=>exact zC (Kd.z0 fY.out zB));(case side2=>exact jI.out);rintro e sm ⟨rfl,hb⟩;replace cd:=zA (zq1 (zK cd.out) hb);replace HB:=zhb hb;clear hb;obtain⟨_,_,_,_⟩:=zc4 cd.out;obtain⟨_,_,_,_⟩:=zf4 cd.out)|(go_at_call 68;(with_reducible refine(yaP.calls _ _ az true _ ?side1 ?side2 Gf.out).mono ?_);(case side1=>exact zC (Kd.z0 fY.out HB.out));(case side2=>exact jI.out);rintro e wZ ⟨rfl,hb⟩;replace cd:=zA (zq1 (zK cd.out) hb);replace HB:=zhb hb;clear hb;obtain⟨_,_,_,_⟩:=zc4 cd.out;obtain⟨_,_,_,_⟩:=zf4 cd.out)|(go_at_call 69;(with_reducible refine(ybf.calls k _ _ bb iZ _ ?side1 ?side2 qu.out).mono ?_);(case side1=>exact zC (Kd.z0 gw.out HB.out));(case side2=>exact iq.out);rintro e w' ⟨rfl,⟨nd,rfl⟩⟩))
 go_ret;exact⟨zT,zB⟩
def ybj.f (a0:Int):Option (Bool):=(yaO.f a0 0 9999).bind fun dk=>(some dk)
theorem ybj.calls (a0:Int)(r:Bool)(w:World)(h:ybj.f a0=some r) :
 Calls prog 31 #[.int .i64 a0] w fun e w'=>e=.returned (.bool r)∧Drawn0 w w':=by
 have H:=h;clear h;unfold ybj.f at H;obtain⟨dk,A2,H⟩:=zM H;obtain rfl:=zs H;go_enter func31,ntmps31;go_wp2_with (first|((with_reducible refine zq2 (f:=27) rfl ?_);refine zq7 (some 4) rfl rfl func27 zY1 rfl #[.int .i64 a0,.int .i64 0,.int .i64 9999] rfl zY0 ?_;(with_reducible refine(yaO.calls a0 0 9999 dk _ A2.out).mono ?_);rintro e w' ⟨rfl,⟨nd,rfl⟩⟩;refine⟨_,rfl,?_⟩))
 go_ret;exact⟨by first|rfl|(simp;done)|(simp[*];done),by repeat(first|exact Drawn0.refl _|apply Drawn0.step)⟩
def yax.j0:Nat→Bool→Int→Int→ByteArray→ByteArray→Int→ByteArray→ByteArray→List (S24)→List ByteArray→Option (Bool)
 | 0,_,_,_,_,_,_,_,_,_,_=>none
 | k+1,x3,um,BF,sh,xf,BN,Lk,Ll,Lm,Ln=>if um=1 then((yba.f k Lk Ll Lm Ln).bind fun jv=>(if jv=true then((ybj.f BN).bind fun kB=>(if kB=true then(if BF=0 then((yaG.f sh xf).bind fun gK=>(some gK))else(some false))else(some false)))else(some false)))else(if um=2 then(if x3=true then(some (BN==0))else(some false))else(if um=3 then(if x3=true then((ybj.f BN).bind fun iD=>(some iD))else(some false))else(some false)))
def yax.f (k:Nat)(ag:Int)(ah:Int)(aT:ByteArray)(bi:ByteArray)(bu:Int)(bk:ByteArray)(bm:ByteArray)(aX:List (S24))(aY:List ByteArray):Option (Bool):=(yaO.f ah 1 999).bind fun fc=>(if fc=true then((ybd.f k aT bi).bind fun nw=>(if nw=true then((ybr.f bk bm aX aY).bind fun dW=>(yax.j0 k dW ag ah aT bi bu bk bm aX aY))else(yax.j0 k false ag ah aT bi bu bk bm aX aY)))else(yax.j0 k false ag ah aT bi bu bk bm aX aY))
theorem yax.calls (k:Nat)(ag:Int)(ah:Int)(aT:ByteArray)(bi:ByteArray)(bu:Int)(bk:ByteArray)(bm:ByteArray)(cv:Option Addr)(cw:Nat)(aX:List (S24))(cx:Option Addr)(cy:Nat)(aY:List ByteArray)(r:Bool)(w:World)(iG:Kd.C k24 w cv aX.length aX)(iH:aX.length≤cw)(iI:Kd.C Kd.string w cx aY.length aY)(iJ:aY.length≤cy)(hG:GOK w)(h:yax.f k ag ah aT bi bu bk bm aX aY=some r) :
 Calls prog 10 #[.agg #[.int .i64 ag,.int .i64 ah,.string aT,.string bi,.int .i64 bu,.string bk,.string bm,.slice cv aX.length cw,.slice cx aY.length cy]] w fun e w'=>e=.returned (.bool r)∧Below w.heap.size w w':=by
 have hu30:=underlying30;have hu24:=underlying24;have hu28:=underlying28;have fZ:=zA iG;have f6:=zA iH;clear iG iH;have f7:=zA iI;have f9:=zA iJ;clear iI iJ;have HG:=zA hG;clear hG;have HB:=zA (Below.refl w.heap.size w);have H:=h;clear h;unfold yax.f at H;have pY:=zA H;clear H;go_enter func10,ntmps10;go_upto_region 1 with (first|((with_reducible refine zq6 (N:=1) rfl ?_);refine zEa (N:=1) (cs:=#[.int .i64 ag,.int .i64 ah,.string aT,.string bi,.int .i64 bu,.string bk,.string bm,.slice cv aX.length cw,.slice cx aY.length cy]) (t:=30) ?_;intro i7 hg w3 bA hb;have xg:=zA (zS hg:w.heap.size≤i7);have xh:=zA (zS hg:w.heap.size≤i7);replace HB:=zhb hb;clear hb hg))
 go_cut [3] (fun v3 wc=>∃(kq:Nat) (av:Bool),v3=.bool av∧Aside0 (yax.j0 kq av ag ah aT bi bu bk bm aX aY=some r)∧Aside0 (kq≤k)∧Aside0 (wc.heap[i7]?=some (.cells #[.int .i64 ag,.int .i64 ah,.string aT,.string bi,.int .i64 bu,.string bk,.string bm,(.slice cv aX.length cw),(.slice cx aY.length cy)] 30 (0,0)))∧Aside0 (Below w.heap.size w wc))
 case first =>
  have H:=pY.out;clear pY;replace H:=zM H;obtain⟨fc,A4,H⟩:=H;replace H:=zb H;obtain⟨rfl,H⟩|⟨rfl,H⟩:=H
  ·have H':=zA H;clear H;obtain⟨xm,xn,xo,xp,Lo,Lp,Lq,Lr,Ls⟩:=zc9 bA.out;obtain⟨xq,xr,xt,xu,Lt,Lu,Lv,Lw,Lx⟩:=zf9 bA.out;(go_wp2_with (first|((with_reducible refine zq2 (f:=27) rfl ?_);refine zq7 (some 6) rfl rfl func27 zY1 rfl #[.int .i64 ah,.int .i64 1,.int .i64 999] rfl zY0 ?_;(with_reducible refine(yaO.calls ah 1 999 false _ A4.out).mono ?_);rintro e w' ⟨rfl,⟨nd,rfl⟩⟩;refine⟨_,rfl,?_⟩)));go_meet;case rel=>exact⟨_,(false),zY3,H',⟨by first|omega|exact Nat.le_refl _⟩,⟨zK bA.out⟩,⟨zB⟩⟩
  replace H:=zM H;obtain⟨nw,A6,H⟩:=H;replace H:=zb H;obtain⟨rfl,H⟩|⟨rfl,H⟩:=H
  ·have H':=zA H;clear H;obtain⟨tO,tP,AO,AP,AQ,AR,AS,AT,AU⟩:=zc9 bA.out;obtain⟨tQ,tR,AV,AW,AX,AY,AZ,Ba,Bb⟩:=zf9 bA.out;(go_wp2_with (first|((with_reducible refine zq2 (f:=27) rfl ?_);refine zq7 (some 6) rfl rfl func27 zY1 rfl #[.int .i64 ah,.int .i64 1,.int .i64 999] rfl zY0 ?_;(with_reducible refine(yaO.calls ah 1 999 true _ A4.out).mono ?_);rintro e w' ⟨rfl,⟨nd,rfl⟩⟩;refine⟨_,rfl,?_⟩)|(go_at_call 28;(with_reducible refine(ybd.calls k aT bi false _ zg A6.out).mono ?_);rintro e eT ⟨rfl,hb⟩;replace bA:=zA (zq1 (zK bA.out) hb);replace HB:=zhb hb;clear hb)));go_meet;case rel=>exact⟨_,(false),zY3,H',⟨by first|omega|exact Nat.le_refl _⟩,⟨zK bA.out⟩,⟨zB⟩⟩
  replace H:=zM H;obtain⟨dW,A8,H⟩:=H;have H':=zA H;clear H;obtain⟨pZ,qa,Bc,Bd,Be,Bf,Bg,Bh,Bi⟩:=zc9 bA.out;obtain⟨qb,qc,Bj,Bk,Bl,Bm,Bn,Bo,Bp⟩:=zf9 bA.out;(go_wp2_with (first|((with_reducible refine zq2 (f:=27) rfl ?_);refine zq7 (some 6) rfl rfl func27 zY1 rfl #[.int .i64 ah,.int .i64 1,.int .i64 999] rfl zY0 ?_;(with_reducible refine(yaO.calls ah 1 999 true _ A4.out).mono ?_);rintro e w' ⟨rfl,⟨nd,rfl⟩⟩;refine⟨_,rfl,?_⟩)|(go_at_call 28;(with_reducible refine(ybd.calls k aT bi true _ zg A6.out).mono ?_);rintro e eI ⟨rfl,hb⟩;replace bA:=zA (zq1 (zK bA.out) hb);replace HB:=zhb hb;clear hb;obtain⟨Ly,Lz,LA,LB,LC,LD,LE,LF,LG⟩:=zc9 bA.out;obtain⟨LH,LI,LJ,LK,LM,LN,LO,LP,LQ⟩:=zf9 bA.out)|(go_at_call 29;(with_reducible refine(ybr.calls bk bm _ _ aX _ _ aY dW _ ?side1 ?side2 ?side3 ?side4 A8.out).mono ?_);(case side1=>exact zC (Kd.z0 fZ.out HB.out));(case side2=>exact f6.out);(case side3=>exact zC (Kd.z0 f7.out HB.out));(case side4=>exact f9.out);rintro e fe ⟨rfl,hb⟩;replace bA:=zA (zq1 (zK bA.out) hb);replace HB:=zhb hb;clear hb)));go_meet;case rel=>exact⟨_,(dW),zY3,H',⟨by first|omega|exact Nat.le_refl _⟩,⟨zK bA.out⟩,⟨zB⟩⟩
 case rest =>
  clear pY;obtain⟨kq,av,rfl,HA,HJ1,bA,HB⟩:=hcut;cases kq with
  | zero=>exact absurd HA.out (by simp[yax.j0])
  | succ kj1 =>
   have H:=HA.out;clear HA;simp only[yax.j0]at H;replace H:=zf H zkQNqnk zkQqn;obtain⟨⟨c16b0,c16b1,nq⟩,H⟩|⟨⟨c16b0,c16b1⟩,H⟩:=H
   ·replace H:=zh H zkQqn zkQNqnk;obtain⟨⟨c35b0,c35b1⟩,H⟩|⟨⟨c35b0,c35b1,Gh⟩,H⟩:=H
    ·replace H:=zbp H;obtain⟨rfl,H⟩|⟨rfl,H⟩:=H
     ·obtain rfl:=zs H;obtain⟨_,_,_,_,_,_,_,_,_⟩:=zc9 bA.out;obtain⟨_,_,_,_,_,_,_,_,_⟩:=zf9 bA.out;go_wp2;go_ret;exact⟨zT,zB⟩
     obtain rfl:=zs H;obtain⟨_,_,_,_,_,_,_,_,_⟩:=zc9 bA.out;obtain⟨_,_,_,_,_,_,_,_,_⟩:=zf9 bA.out;go_wp2;go_ret;exact⟨zT,zB⟩
    replace H:=zf H zkQNqnk zkQqn;obtain⟨⟨c39b0,c39b1,BO⟩,H⟩|⟨⟨c39b0,c39b1⟩,H⟩:=H
    ·obtain rfl:=zs H;obtain⟨_,_,_,_,_,_,_,_,_⟩:=zc9 bA.out;obtain⟨_,_,_,_,_,_,_,_,_⟩:=zf9 bA.out;go_wp2;go_ret;exact⟨zT,zB⟩
    replace H:=zb H;obtain⟨rfl,H⟩|⟨rfl,H⟩:=H
    ·obtain rfl:=zs H;obtain⟨_,_,_,_,_,_,_,_,_⟩:=zc9 bA.out;obtain⟨_,_,_,_,_,_,_,_,_⟩:=zf9 bA.out;go_wp2;go_ret;exact⟨zT,zB⟩
    replace H:=zM H;obtain⟨iD,BP,H⟩:=H;obtain rfl:=zs H;obtain⟨_,_,_,_,_,_,_,_,_⟩:=zc9 bA.out;obtain⟨_,_,_,_,_,_,_,_,_⟩:=zf9 bA.out;(go_wp2_with (first|(go_at_call 31;(with_reducible refine(ybj.calls bu iD _ BP.out).mono ?_);rintro e w' ⟨rfl,⟨nd,rfl⟩⟩)));go_ret;exact⟨zT,zB⟩
   replace H:=zM H;obtain⟨jv,ga,H⟩:=H;replace H:=zb H;obtain⟨rfl,H⟩|⟨rfl,H⟩:=H
   ·obtain rfl:=zs H;obtain⟨_,_,_,_,_,_,_,_,_⟩:=zc9 bA.out;obtain⟨_,_,_,_,_,_,_,_,_⟩:=zf9 bA.out;(go_wp2_with (first|((with_reducible refine zq2 (f:=30) rfl ?_);refine zq7 (some 23) rfl rfl func30 zY1 rfl #[.agg #[.string bk,.string bm,.slice cv aX.length cw,.slice cx aY.length cy]] rfl zY0 ?_;(with_reducible refine(yba.calls kj1 bk bm _ _ aX _ _ aY false _ ?side1 ?side2 ?side3 ?side4 zg ga.out).mono ?_);(case side1=>exact zC (Kd.z0 fZ.out HB.out));(case side2=>exact f6.out);(case side3=>exact zC (Kd.z0 f7.out HB.out));(case side4=>exact f9.out);rintro e nv ⟨rfl,hb⟩;refine⟨_,rfl,?_⟩;replace bA:=zA (zq1 (zK bA.out) hb);replace HB:=zhb hb;clear hb)));go_ret;exact⟨zT,zB⟩
   replace H:=zM H;obtain⟨kB,d6,H⟩:=H;replace H:=zb H;obtain⟨rfl,H⟩|⟨rfl,H⟩:=H
   ·obtain rfl:=zs H;obtain⟨_,_,_,_,_,_,_,_,_⟩:=zc9 bA.out;obtain⟨_,_,_,_,_,_,_,_,_⟩:=zf9 bA.out;(go_wp2_with (first|((with_reducible refine zq2 (f:=30) rfl ?_);refine zq7 (some 23) rfl rfl func30 zY1 rfl #[.agg #[.string bk,.string bm,.slice cv aX.length cw,.slice cx aY.length cy]] rfl zY0 ?_;(with_reducible refine(yba.calls kj1 bk bm _ _ aX _ _ aY true _ ?side1 ?side2 ?side3 ?side4 zg ga.out).mono ?_);(case side1=>exact zC (Kd.z0 fZ.out HB.out));(case side2=>exact f6.out);(case side3=>exact zC (Kd.z0 f7.out HB.out));(case side4=>exact f9.out);rintro e nx ⟨rfl,hb⟩;refine⟨_,rfl,?_⟩;replace bA:=zA (zq1 (zK bA.out) hb);replace HB:=zhb hb;clear hb;obtain⟨_,_,_,_,_,_,_,_,_⟩:=zc9 bA.out;obtain⟨_,_,_,_,_,_,_,_,_⟩:=zf9 bA.out)|(go_at_call 31;(with_reducible refine(ybj.calls bu false _ d6.out).mono ?_);rintro e w' ⟨rfl,⟨nd,rfl⟩⟩)));go_ret;exact⟨zT,zB⟩
   replace H:=zf H zkQNqnk zkQqn;obtain⟨⟨c21b0,c21b1,ny⟩,H⟩|⟨⟨c21b0,c21b1⟩,H⟩:=H
   ·obtain rfl:=zs H;obtain⟨_,_,_,_,_,_,_,_,_⟩:=zc9 bA.out;obtain⟨_,_,_,_,_,_,_,_,_⟩:=zf9 bA.out;(go_wp2_with (first|((with_reducible refine zq2 (f:=30) rfl ?_);refine zq7 (some 23) rfl rfl func30 zY1 rfl #[.agg #[.string bk,.string bm,.slice cv aX.length cw,.slice cx aY.length cy]] rfl zY0 ?_;(with_reducible refine(yba.calls kj1 bk bm _ _ aX _ _ aY true _ ?side1 ?side2 ?side3 ?side4 zg ga.out).mono ?_);(case side1=>exact zC (Kd.z0 fZ.out HB.out));(case side2=>exact f6.out);(case side3=>exact zC (Kd.z0 f7.out HB.out));(case side4=>exact f9.out);rintro e eH ⟨rfl,hb⟩;refine⟨_,rfl,?_⟩;replace bA:=zA (zq1 (zK bA.out) hb);replace HB:=zhb hb;clear hb;obtain⟨_,_,_,_,_,_,_,_,_⟩:=zc9 bA.out;obtain⟨_,_,_,_,_,_,_,_,_⟩:=zf9 bA.out)|(go_at_call 31;(with_reducible refine(ybj.calls bu true _ d6.out).mono ?_);rintro e w' ⟨rfl,⟨nd,rfl⟩⟩)));go_ret;exact⟨zT,zB⟩
   replace H:=zM H;obtain⟨gK,LR,H⟩:=H;obtain rfl:=zs H;obtain⟨_,_,_,_,_,_,_,_,_⟩:=zc9 bA.out;obtain⟨_,_,_,_,_,_,_,_,_⟩:=zf9 bA.out;(go_wp2_with (first|((with_reducible refine zq2 (f:=30) rfl ?_);refine zq7 (some 23) rfl rfl func30 zY1 rfl #[.agg #[.string bk,.string bm,.slice cv aX.length cw,.slice cx aY.length cy]] rfl zY0 ?_;(with_reducible refine(yba.calls kj1 bk bm _ _ aX _ _ aY true _ ?side1 ?side2 ?side3 ?side4 zg ga.out).mono ?_);(case side1=>exact zC (Kd.z0 fZ.out HB.out));(case side2=>exact f6.out);(case side3=>exact zC (Kd.z0 f7.out HB.out));(case side4=>exact f9.out);rintro e sk ⟨rfl,hb⟩;refine⟨_,rfl,?_⟩;replace bA:=zA (zq1 (zK bA.out) hb);replace HB:=zhb hb;clear hb;obtain⟨_,_,_,_,_,_,_,_,_⟩:=zc9 bA.out;obtain⟨_,_,_,_,_,_,_,_,_⟩:=zf9 bA.out)|(go_at_call 31;(with_reducible refine(ybj.calls bu true _ d6.out).mono ?_);rintro e w' ⟨rfl,⟨nd,rfl⟩⟩)|(go_at_call 32;(with_reducible refine(yaG.calls aT bi gK _ LR.out).mono ?_);rintro e Gg ⟨rfl,hb⟩;replace bA:=zA (zq1 (zK bA.out) hb);replace HB:=zhb hb;clear hb)));go_ret;exact⟨zT,zB⟩
end Go.Proofs.YtjdpdkdhfnpcgaaGreatDoor.Q
namespace Go.Proofs.YtjdpdkdhfnpcgaaGreatDoor.Q
open Go.RowKit Go.Proofs.YtjdpdkdhfnpcgaaGreatDoorW.PrintWords Go.Proofs.YtjdpdkdhfnpcgaaGreatDoorW.PrintLast Go.Proofs.YtjdpdkdhfnpcgaaGreatDoorW.PrintMore
set_option linter.unusedVariables false
set_option linter.unusedSimpArgs false
namespace HDot
theorem sizeB:(Tryz.prog.info? 128).map (·.size)=some 2:=by kernel_rfl
theorem liesB:liesAt Tryz.prog Tryz.prog.depth 128 (2 / Tryz.prog.cellsOf 128) 0 128 1=true:=by kernel_rfl
theorem infoByte:(Tryz.prog.info? 5).map (fun i=>(i.zero,i.size,i.bytes))=some (some (.int .u8 0),1,1):=by kernel_rfl
theorem used (b:Nat)(w:World)(h0:w.cell? ⟨b,0,none⟩=some (.pointer (some ⟨b,0,none⟩))) :
 Calls Tryz.prog 139 #[.pointer (some ⟨b,0,none⟩)] w fun e w'=>e=.returned (.tuple #[])∧w'=w:=by
 obtain⟨j,hj,_⟩:=Option.map_eq_some_iff.1 sizeB;have t72:=Tryz.underlying128;have u72:=run_underlying t72;have t70:=Tryz.underlying126;have u70:=run_underlying t70;go_enter Tryz.func139,Tryz.ntmps139;go_wp2;rw[Lib.run_neq_ptr_same w _ Tryz.underlying126 hj];go_wp2;go_end0;exact⟨rfl,rfl⟩
theorem fresh (b:Nat)(w:World)(h0:w.cell? ⟨b,0,none⟩=some (.pointer none))(hsh:w.shape? b=some (128,2))(hfz:w.frozen? ⟨b,0,none⟩=false) :
 Calls Tryz.prog 139 #[.pointer (some ⟨b,0,none⟩)] w fun e w'=>e=.returned (.tuple #[])∧w'=w.setCell ⟨b,0,none⟩ (.pointer (some ⟨b,0,none⟩)):=by
 obtain⟨j,hj,hjs⟩:=Option.map_eq_some_iff.1 sizeB;have t72:=Tryz.underlying128;have u72:=run_underlying t72;have t70:=Tryz.underlying126;have u70:=run_underlying t70;have t164:=Tryz.underlying176;have u164:=run_underlying t164;go_enter Tryz.func139,Tryz.ntmps139;go_wp2;rw[Lib.run_to_unsafe w ⟨b,0,none⟩ Tryz.underlying126 Tryz.underlying176 hj (by rw[hjs];decide) hsh (Nat.zero_lt_succ 1)];simp only[Result.andThen];rw[Oper.upon_value];go_wp2;rw[run_callFunc_extern Tryz.func172 zok zok zok (e:=Extern.AbiNoEscape.same) zok];rw[Lib.run_noEscape];simp only[Result.andThen];rw[Oper.upon_value];go_wp2;rw[Lib.run_from_unsafe w ⟨b,0,none⟩ Tryz.underlying176 Tryz.underlying126 hj hsh liesB];simp only[Result.andThen];rw[Oper.upon_value];go_wp2;go_end0;exact⟨rfl,rfl⟩
theorem check (B b:Nat)(bs:List Value)(w:World)(h:Lib.IsBuilderF 128 5 B b bs w) :
 Calls Tryz.prog 139 #[.pointer (some ⟨b,0,none⟩)] w fun e w'=>e=.returned (.tuple #[])∧Lib.BuilderAtF 128 5 B b (.pointer (some ⟨b,0,none⟩)) bs w'∧Below B w w':=by
 rcases h with h|h
 ·refine(fresh b w h.cell0 h.shape h.frozen0).mono ?_;rintro e w' ⟨rfl,rfl⟩;exact⟨rfl,h.used _,(Below.refl B w).setCell (p:=⟨b,0,none⟩) h.1 _⟩
 ·refine(used b w h.cell0).mono ?_;rintro e w' ⟨rfl,rfl⟩;exact⟨rfl,h,Below.refl B _⟩
theorem writeByte (B b:Nat)(bs:List Value)(c:Int)(w:World)(h:Lib.IsBuilderF 128 5 B b bs w)(hlen:bs.length+1≤140737488355328)(hBw:B≤w.heap.size) :
 Calls Tryz.prog 104 #[.pointer (some ⟨b,0,none⟩),.int .u8 c] w fun e w'=>e=.returned .nilIface∧Lib.BuilderAtF 128 5 B b (.pointer (some ⟨b,0,none⟩)) (bs++[.int .u8 c]) w'∧Below B w w':=by
 obtain⟨i0,hi,hz0,hz1,hz2⟩:=info_parts infoByte;have u72:=run_underlying Tryz.underlying128;have u70:=run_underlying Tryz.underlying126;have u5:=run_underlying Tryz.underlying5;have u37:=run_underlying Tryz.underlying22;go_enter Tryz.func104,Tryz.ntmps104;go_wp2_with (go_at_call 139;refine(check B b bs _ h).mono ?_)
 rintro e w1 ⟨rfl,h1,hb1⟩;obtain⟨hB,v,hbk,hown,hne⟩:=h1;have c0:w1.cell? ⟨b,0,none⟩=some (.pointer (some ⟨b,0,none⟩)):=by rw[Lib.cell_of_heap hbk];rfl
 have c1:w1.cell? ⟨b,1,none⟩=some v:=by rw[Lib.cell_of_heap hbk];rfl
 go_wp2_with (at_builtin;refine wpList_append_ownF _ rfl _ _ 22 rfl B 5 i0 (.int .u8 0) 1 1 Tryz.underlying22 hi hz0 hz1 hz2 rfl zod _ _ _ rfl (hown.alloc _) ⟨w1.heap.size,0,none⟩ 1 1 [.int .u8 c] rfl rfl ?c1 ?c2 ?c3 ?c4 ?c5 ?_)
 case c1 =>
  intro j u hj;match j,hj with
  | 0,hj=>simp at hj;subst hj;simp[Addr.add]
 case c2=>intro u hu;simp at hu;subst hu;rfl
 case c3=>unfold maxLen;omega
 case c4=>omega
 case c5=>have:=hb1.size;simp;omega
 intro v' w2 hown' hgrow _;have hlt:b<w1.heap.size:=by
  rcases Nat.lt_or_ge b w1.heap.size with h'|h'
  ·exact h'
  ·simp[Array.getElem?_eq_none h']at hbk
 have hb2:w2.heap[b]?=some (.cells #[.pointer (some ⟨b,0,none⟩),v] 128 (0,0)):=by
  rw[hgrow.block b (by simp;omega) (fun e=>hne e.symm),Lib.alloc_old w1 _ b hlt];exact hbk
 have d0:w2.cell? ⟨b,0,none⟩=some (.pointer (some ⟨b,0,none⟩)):=by rw[Lib.cell_of_heap hb2];rfl
 have d1:w2.cell? ⟨b,1,none⟩=some v:=by rw[Lib.cell_of_heap hb2];rfl
 have f1:w2.frozen? ⟨b,1,none⟩=false:=Lib.frozen_of_heap hb2 1;obtain⟨g,cap,rfl⟩:∃ g cap,v'=.slice (some ⟨g,0,none⟩) (bs.length+1) cap:=by
  rcases hown'.2 with ⟨_,h0⟩|⟨g,cap,cur,fz,hv,_⟩
  ·omega
  ·exact⟨g,cap,hv⟩
 go_wp2;go_ret;refine⟨rfl,?_,?_⟩
 ·exact Lib.BuilderAtF.put (T:=128) (e:=5) hB hb2 (bs':=bs++[.int .u8 c]) (by simpa using hown') zod
 ·exact((hb1.alloc (by have:=hb1.size;omega) _).grown hgrow (by have:=hb1.size;simp;omega) (fun k hk=>(hown.lt k hk).1)).setCell (p:=⟨b,1,none⟩) hB _
theorem writeString (B b:Nat)(bs:List Value)(s:ByteArray)(w:World)(h:Lib.IsBuilderF 128 5 B b bs w)(hlen:bs.length+s.size≤140737488355328)(hBw:B≤w.heap.size) :
 Calls Tryz.prog 105 #[.pointer (some ⟨b,0,none⟩),.string s] w fun e w'=>e=.returned (.tuple #[.int .i64 s.size,.nilIface])∧Lib.BuilderAtF 128 5 B b (.pointer (some ⟨b,0,none⟩)) (bs++Lib.strCells s) w'∧Below B w w':=by
 obtain⟨i0,hi,hz0,hz1,hz2⟩:=info_parts infoByte;have u72:=run_underlying Tryz.underlying128;have u70:=run_underlying Tryz.underlying126;have u5:=run_underlying Tryz.underlying5;have u37:=run_underlying Tryz.underlying22;have u9:=run_underlying Tryz.underlying9;go_enter Tryz.func105,Tryz.ntmps105;go_wp2_with (go_at_call 139;refine(check B b bs _ h).mono ?_)
 rintro e w1 ⟨rfl,h1,hb1⟩;obtain⟨hB,v,hbk,hown,hne⟩:=h1;have c0:w1.cell? ⟨b,0,none⟩=some (.pointer (some ⟨b,0,none⟩)):=by rw[Lib.cell_of_heap hbk];rfl
 have c1:w1.cell? ⟨b,1,none⟩=some v:=by rw[Lib.cell_of_heap hbk];rfl
 go_wp2_with (at_builtin;refine Lib.wpList_append_own_stringF _ rfl _ _ 22 9 rfl B 5 i0 Tryz.underlying22 Tryz.underlying9 hi hz0 hz1 hz2 _ _ _ rfl hown s rfl ?c3 ?c4 ?c5 ?_)
 case c3=>unfold maxLen;omega
 case c4=>omega
 case c5=>have:=hb1.size;omega
 intro v' w2 hown' hgrow _;have hlt:b<w1.heap.size:=by
  rcases Nat.lt_or_ge b w1.heap.size with h'|h'
  ·exact h'
  ·simp[Array.getElem?_eq_none h']at hbk
 have hb2:w2.heap[b]?=some (.cells #[.pointer (some ⟨b,0,none⟩),v] 128 (0,0)):=by
  rw[hgrow.block b hlt (fun e=>hne e.symm)];exact hbk
 have d0:w2.cell? ⟨b,0,none⟩=some (.pointer (some ⟨b,0,none⟩)):=by rw[Lib.cell_of_heap hb2];rfl
 have d1:w2.cell? ⟨b,1,none⟩=some v:=by rw[Lib.cell_of_heap hb2];rfl
 have f1:w2.frozen? ⟨b,1,none⟩=false:=Lib.frozen_of_heap hb2 1;obtain⟨ao,n',cap,rfl⟩:∃ ao n' cap,v'=.slice ao n' cap:=by
  rcases hown'.2 with ⟨hv,_⟩|⟨g,cap,cur,fz,hv,_⟩
  ·exact⟨_,_,_,hv⟩
  ·exact⟨_,_,_,hv⟩
 go_wp2;go_ret2;refine⟨rfl,?_,?_⟩
 ·exact Lib.BuilderAtF.put (T:=128) (e:=5) hB hb2 (bs':=bs++Lib.strCells s) (by simpa [Lib.strCells_length]using hown') zod
 ·exact(hb1.grown hgrow (by have:=hb1.size;omega) (fun k hk=>(hown.lt k hk).1)).setCell (p:=⟨b,1,none⟩) hB _
end HDot
def dotLine (l:List UInt8):List UInt8:=(if Lib.hasPrefix l [46]=true then[46]else[])++(l++[13,10])
def dotLines (ls:List ByteArray):List UInt8:=ls.flatMap fun s=>dotLine s.data.toList
def ybn.f (l0:List ByteArray):Option ByteArray:=if(dotLines l0).length≤1099511627776 then some ⟨(dotLines l0++[46,13,10]).toArray⟩else none
theorem dotLines_take (ls:List ByteArray)(k:Nat)(h:k<ls.length):dotLines (ls.take (k+1))=dotLines (ls.take k)++dotLine (ls.getD k ByteArray.empty).data.toList:=by
 unfold dotLines;rw[List.take_succ_eq_append_getElem h,List.flatMap_append,List.getD_eq_getElem?_getD,List.getElem?_eq_getElem h];simp
theorem dotLines_le (ls:List ByteArray)(k:Nat):(dotLines (ls.take k)).length≤(dotLines ls).length:=by
 conv=>rhs;rw[← List.take_append_drop k ls]
 unfold dotLines;rw[List.flatMap_append,List.length_append];omega
theorem strCells_byte (s:ByteArray):Lib.strCells s=Lib.byteCells s.data.toList:=rfl
theorem data_append (a b:ByteArray):(a++b).data.toList=a.data.toList++b.data.toList:=by
 rw[ByteArray.data_append,Array.toList_append]
theorem size_crlf (line:ByteArray):(line++⟨#[13,10]⟩).size=line.size+2:=by
 rw[Lib.size_eq,data_append,List.length_append,← Lib.size_eq];rfl
theorem cells_plain (acc:List UInt8)(line:ByteArray):Lib.byteCells (acc++(line.data.toList++[13,10]))=Lib.byteCells acc++Lib.strCells (line++⟨#[13,10]⟩):=by
 rw[Lib.byteCells_append,strCells_byte,data_append]
theorem cells_dot (acc:List UInt8)(line:ByteArray):Lib.byteCells (acc++([46]++(line.data.toList++[13,10])))=Lib.byteCells acc++[.int .u8 46]++Lib.strCells (line++⟨#[13,10]⟩):=by
 rw[← List.append_assoc,cells_plain,Lib.byteCells_append];rfl
theorem ybn.calls (A0:Option Addr)(c0:Nat)(l0:List ByteArray)(r:ByteArray)(w:World)(hr0:Kd.C Kd.string w A0 l0.length l0)(hc0:l0.length≤c0)(h:ybn.f l0=some r) :
 Calls Tryz.prog 55 #[.slice A0 l0.length c0] w fun e w'=>e=.returned (.string r)∧Below w.heap.size w w':=by
 unfold ybn.f at h;split at h;case isFalse=>cases h
 case isTrue hlen =>
  injection h with h;have hR:=Aside0.mk h;have hlen2:=Aside0.mk hlen;have hc0':=Aside0.mk hc0;clear h hlen hc0;have hm:l0.length≤9223372036854775807:=hr0.2.1;go_enter Tryz.func55,Tryz.ntmps55;go_wp2;go_loopw [8] (fun i wr=>∃ k:Nat,k≤l0.length∧i=.int .i64 k∧Lib.IsBuilderF 128 5 w.heap.size w.heap.size (Lib.byteCells (dotLines (l0.take k))) wr∧w.heap.size<wr.heap.size∧Below w.heap.size w wr) (fun i _=>l0.length - (intOf i).toNat)
  case atStart =>
   exact⟨0,Nat.zero_le _,rfl,Lib.IsBuilderF.of (Lib.fresh_isBuilder 128 5 w),by simp,(Below.refl _ w).alloc (Nat.le_refl _) _⟩
  case round =>
   obtain⟨k,hk,rfl,hI,hsz,hbw⟩:=hrel;by_cases hlt:k<l0.length
   ·have hC:=Kd.z0 hr0 hbw;obtain⟨ad,e1,hx⟩:=Kd.z16 hC (k:Int) zoo zoo;cases e1;have hts:=Aside0.mk (dotLines_take l0 k hlt);have hle:=dotLines_le l0 (k+1);have hle0:=dotLines_le l0 k;have hle2:(dotLines (l0.take k)).length+(dotLine (l0.getD k ByteArray.empty).data.toList).length≤1099511627776:=by
     have:=hlen2.out;rw[hts.out,List.length_append]at hle;omega
    have hdl:(l0.getD k ByteArray.empty).size+2≤(dotLine (l0.getD k ByteArray.empty).data.toList).length:=by
     unfold dotLine;simp only[List.length_append,Lib.size_eq,List.length_cons,List.length_nil];omega
    (have hrd:rdOf ByteArray.empty l0 (k:Int)=l0.getD k ByteArray.empty:=by unfold rdOf;rw[Int.toNat_natCast]);rw[hrd,Int.toNat_natCast]at hx;clear hrd hC hle hle0;(have hsz2:(l0.getD k ByteArray.empty).size+2≤9223372036854775807:=by omega);have hl2:=Aside0.mk hle2;clear hle2 hdl;generalize l0.getD k ByteArray.empty=line at *;generalize hacc:dotLines (l0.take k)=acc at *;clear hacc;by_cases hp:Lib.hasPrefix line.data.toList [46]=true
    ·(have hd:dotLine line.data.toList=[46]++(line.data.toList++[13,10]):=by unfold dotLine;rw[if_pos hp]);rw[hd]at hts hl2;clear hd;(go_wp2_with (first|(go_at_call 103;refine(Tryz.strings_HasPrefix line ⟨#[46]⟩ _).mono ?_;rintro e w' ⟨rfl,rfl⟩)|(go_at_call 104;refine(HDot.writeByte w.heap.size w.heap.size _ 46 _ hI (by rw[Lib.byteCells_length];have:=hl2.out;simp at this;omega) zoo).mono ?_)));rintro e W1 ⟨rfl,h1,b1⟩;have hs1:=b1.size;have hw:=Aside0.mk (show(Lib.byteCells acc++[Value.int .u8 46]).length+(line++⟨#[13,10]⟩).size≤140737488355328 by
      have:=hl2.out;rw[List.length_append,Lib.byteCells_length,size_crlf];simp at this ⊢;omega)
     (have hb:w.heap.size≤W1.heap.size:=by omega);have h1':Lib.IsBuilderF 128 5 w.heap.size w.heap.size (Lib.byteCells acc++[Value.int .u8 46]) W1:=Or.inr h1;(go_wp2_with (go_at_call 105;(with_reducible refine(HDot.writeString w.heap.size w.heap.size (Lib.byteCells acc++[Value.int .u8 46]) (line++⟨#[13,10]⟩) _ h1' hw.out hb).mono ?_)));rintro e W2 ⟨rfl,h2,b2⟩;have hs2:=b2.size;go_wp2;go_roundw;case rel =>
      refine⟨k+1,by omega,by go_num,?_,by omega,hbw.trans (b1.trans b2)⟩;rw[hts.out,cells_dot];exact Or.inr h2
     case measure=>simp[intOf];omega
    ·(have hp':Lib.hasPrefix line.data.toList [46]=false:=by simpa using hp);(have hd:dotLine line.data.toList=line.data.toList++[13,10]:=by unfold dotLine;rw[if_neg hp];rfl);rw[hd]at hts hl2;clear hd hp;have hw:=Aside0.mk (show(Lib.byteCells acc).length+(line++⟨#[13,10]⟩).size≤140737488355328 by
      have:=hl2.out;rw[Lib.byteCells_length,size_crlf];simp at this ⊢;omega)
     (have hb:w.heap.size≤wr.heap.size:=by omega);(go_wp2_with (first|(go_at_call 103;(with_reducible refine(Tryz.strings_HasPrefix line ⟨#[46]⟩ _).mono ?_);rintro e w' ⟨rfl,rfl⟩)|(go_at_call 105;(with_reducible refine(HDot.writeString w.heap.size w.heap.size (Lib.byteCells acc) (line++⟨#[13,10]⟩) _ hI hw.out hb).mono ?_))));rintro e W2 ⟨rfl,h2,b2⟩;have hs2:=b2.size;go_wp2;go_roundw;case rel =>
      refine⟨k+1,by omega,by go_num,?_,by omega,hbw.trans b2⟩;rw[hts.out,cells_plain];exact Or.inr h2
     case measure=>simp[intOf];omega
   ·(have hke:k=l0.length:=by omega);subst hke;have hle2:=hlen2.out;rw[List.take_length]at hI;generalize hacc:dotLines l0=acc at *;clear hacc;have hs3:(Lib.byteCells acc).length+(⟨#[46,13,10]⟩:ByteArray).size≤140737488355328:=by
     have:(⟨#[46,13,10]⟩:ByteArray).size=3:=rfl;rw[Lib.byteCells_length];omega
    (have hs4:w.heap.size≤wr.heap.size:=by omega);have hs5:=Aside0.mk hs3;clear hs3 hle2;(go_wp2_with (go_at_call 105;(with_reducible refine(HDot.writeString w.heap.size w.heap.size (Lib.byteCells acc) ⟨#[46,13,10]⟩ _ hI hs5.out hs4).mono ?_)));rintro e W1 ⟨rfl,h1,b1⟩;have hs1:=b1.size;have h2:Lib.IsBuilderF 128 5 w.heap.size w.heap.size (Lib.byteCells (acc++[46,13,10])) W1:=by
     rw[Lib.byteCells_append];exact Or.inr h1
    (go_wp2_with (go_at_call 106;refine(Tryz.Builder_String_any_k w.heap.size w.heap.size (acc++[46,13,10]) _ h2 zoo).mono ?_));rintro e W2 ⟨rfl,_,b2,_⟩;go_wp2;go_ret;exact⟨congrArg (fun s=>Ending.returned (Value.string s)) hR.out,hbw.trans (b1.trans b2)⟩
end Go.Proofs.YtjdpdkdhfnpcgaaGreatDoor.Q
