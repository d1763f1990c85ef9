/-
  Contracts and plain lemmas. By an AI agent.
-/
import Derived.Shelf.Strings.Builder1
import Derived.Shelf.Strings.Builder2
import Derived.Shelf.Strings.Trim
import Derived.Shelf.Small.Utf8
import Derived.Shelf.Small.Strs
import Derived.Shelf.Small.Wraps
import Derived.Shelf.Strings.BuilderF
import Derived.Shelf.Strings.BuilderK
import Derived.Shelf.Strings.Builder2Cap
import Derived.Shelf.Strconv.Atoi
import Derived.Shelf.Strconv.Itoa0
import Derived.Shelf.Strconv.Itoa1
import Derived.Shelf.LaysM
import Derived.Shelf.Strconv.Itoa2
import Derived.Shelf.Strconv.Itoa3
import Derived.Shelf.Strconv.AtoiErrFast
import Derived.Shelf.Strconv.ParseIntEmpty
import Derived.Shelf.Strconv.AtoiFail
import Derived.Shelf.Strconv.Clone
import Derived.Shelf.Strconv.SyntaxError
import Derived.Shelf.LaysC
import Derived.Shelf.Strconv.ToError
import Derived.Shelf.Strconv.AtoiErr
import Derived.Shelf.Strconv.ErrVar
import Derived.Shelf.Strconv.Lower
import Derived.Shelf.Strconv.ParseUint10
import Derived.Shelf.Strconv.ParseUint10Empty
import Derived.Shelf.Strconv.ParseUint10Any
import Derived.Shelf.Strconv.ParseInt10
import Derived.Shelf.Strconv.AtoiLong
import Derived.Shelf.Strconv.AtoiInnerAll
import Derived.Shelf.Strconv.RangeError
import Derived.Shelf.Strconv.ToErrorRange
import Derived.Shelf.Strconv.AtoiAll
import Derived.Shelf.Strconv.ErrVarAll
import Derived.Shelf.Strconv.ParseUintEmpty
import Derived.Shelf.Strconv.ParseUint10b64
import Derived.Shelf.Strconv.ParseUint10b32
import Derived.Shelf.Strconv.ParseUint10b16
import Derived.Shelf.Strconv.ParseUint10b8
import Derived.Shelf.Strconv.ParseUint10At
import Derived.Shelf.Strconv.ParseInt10At64
import Derived.Shelf.Strconv.ParseInt10At32
import Derived.Shelf.Strconv.ParseInt10At16
import Derived.Shelf.Strconv.ParseInt10At8
import Derived.Shelf.Strconv.ParseInt10All
import Derived.Shelf.Strings.Search1
import Derived.Shelf.Strings.Prefix
import Derived.Shelf.Unicode.Decode
import Derived.Shelf.Strings.Runes
import Derived.Shelf.Strings.AsciiSet
import Derived.Shelf.Bits.Mul64
import Derived.Shelf.Strings.Repeat
import Derived.Shelf.Unicode.DecodeSlow
import Derived.Shelf.Unicode.DecodeAny
import Derived.Shelf.Unicode.DecodeLast
import Derived.Shelf.Strings.BuilderCap
import Derived.Ground.Names2Prog
import Derived.Shelf.Slices.SearchI
import Derived.Test.YtnkmbjedcjcccaaGreatDoorProg
set_option linter.all false
namespace Go.Proofs
open Go.Shelf
def Tryz.lays169_ren:Go.Shelf.Ren:=⟨fun | 169=>143 | n=>n,fun | 70=>170 | 9=>9 | 0=>0 | 72=>173 | 37=>171 | 127=>199 | 3=>3 | 5=>5 | n=>n,fun | n=>n⟩
theorem Tryz.lays169:Go.Proofs.Lays.n169 Tryz.prog Tryz.lays169_ren:={
  mixed:=by kernel_rfl
  f169:=Tryz.func143.trans (congrArg some (by kernel_rfl))
  t0:=Tryz.underlying0
  a0:=Tryz.isAgg0
  z0:=Tryz.sizeOf0
  v0:=Tryz.zeroValue0
  t3:=Tryz.underlying3
  a3:=Tryz.isAgg3
  z3:=Tryz.sizeOf3
  v3:=Tryz.zeroValue3
  t9:=Tryz.underlying9
  a9:=Tryz.isAgg9
  z9:=Tryz.sizeOf9
  v9:=Tryz.zeroValue9
  t37:=Tryz.underlying171
  a37:=Tryz.isAgg171
  z37:=Tryz.sizeOf171
  v37:=Tryz.zeroValue171
  t70:=Tryz.underlying170
  a70:=Tryz.isAgg170
  z70:=Tryz.sizeOf170
  v70:=Tryz.zeroValue170
  t72:=Tryz.underlying173
  a72:=Tryz.isAgg173
  z72:=Tryz.sizeOf173
  v72:=Tryz.zeroValue173
  t127:=Tryz.underlying199
  a127:=Tryz.isAgg199
  z127:=Tryz.sizeOf199
  v127:=Tryz.zeroValue199 }
theorem Tryz.Builder_Extra_169:Builder.Extra Tryz.prog Tryz.lays169_ren:={
  sizeBuilder:=by kernel_rfl
  liesBuilder:=by kernel_rfl
  t5:=Tryz.underlying5
  a5:=Tryz.isAgg5
  z5:=Tryz.sizeOf5
  v5:=Tryz.zeroValue5
  infoByte:=by kernel_rfl
  cellsByte:=by kernel_rfl
  sizeByte:=by kernel_rfl
  neB5:=by decide }
def Tryz.lays215_ren:Go.Shelf.Ren:=⟨fun | 215=>164 | n=>n,fun | 3=>3 | 4=>4 | n=>n,fun | n=>n⟩
theorem Tryz.lays215:Go.Proofs.Lays.n215 Tryz.prog Tryz.lays215_ren:={
  mixed:=by kernel_rfl
  f215:=Tryz.func164.trans (congrArg some (by kernel_rfl))
  t3:=Tryz.underlying3
  a3:=Tryz.isAgg3
  z3:=Tryz.sizeOf3
  v3:=Tryz.zeroValue3
  t4:=Tryz.underlying4
  a4:=Tryz.isAgg4
  z4:=Tryz.sizeOf4
  v4:=Tryz.zeroValue4 }
open Go.RowKit in
theorem Tryz.cmp_isNaN_int(x:Int)(w:World):
    Calls Tryz.prog 164 #[.int .i64 x] w fun e w'=>e=.returned (.bool false)/\w'=w:=Any.cmp_isNaN_int Tryz.lays215 x w
open Go.RowKit in
theorem Tryz.Builder_String_any_k(B b:Nat)(l:List UInt8)(w:World)(h:Lib.IsBuilderF 173 5 B b (Lib.byteCells l) w)(hBw:B<=w.heap.size):
    Calls Tryz.prog 143 #[.pointer (some ⟨b,0,none⟩)] w fun e w'=>e=.returned (.string ⟨l.toArray⟩)/\(Lib.IsBuilderF 173 5 B b (Lib.byteCells l) w'/\Below B w w'/\Lib.OthersKept 5 (some b) w w'):=Any.Builder_String_any_k Tryz.lays169 Tryz.Builder_Extra_169 B b l w h hBw
def Tryz.lays172_ren:Go.Shelf.Ren:=⟨fun | 172=>76 | 244=>115 | 245=>116 | 247=>154 | 279=>155 | 280=>156 | 281=>157 | 282=>158 | 287=>175 | 316=>176 | 171=>78 | 205=>177 | 321=>196 | 322=>197 | 243=>117 | 246=>159 | 283=>178 | 284=>179 | 285=>180 | 286=>181 | 129=>199 | 317=>198 | 318=>200 | 319=>201 | 320=>202 | 337=>208 | 338=>209 | n=>n,fun | 9=>9 | 3=>3 | 75=>123 | 76=>124 | 4=>4 | 5=>5 | 167=>183 | 37=>171 | 0=>0 | 85=>184 | 2=>2 | 168=>186 | 53=>200 | 175=>201 | 46=>192 | 210=>204 | 127=>199 | 145=>228 | 143=>226 | 21=>21 | 171=>206 | 173=>209 | 212=>230 | 51=>211 | 20=>20 | 213=>231 | 232=>240 | 233=>241 | 80=>177 | n=>n,fun | 15=>2 | 16=>3 | 17=>4 | 18=>6 | 19=>7 | n=>n⟩
theorem Tryz.lays172:Go.Proofs.Lays.n172 Tryz.prog Tryz.lays172_ren:={
  mixed:=by kernel_rfl
  f129:=Tryz.func199.trans (congrArg some (by kernel_rfl))
  f171:=Tryz.func78.trans (congrArg some (by kernel_rfl))
  f172:=Tryz.func76.trans (congrArg some (by kernel_rfl))
  f205:=Tryz.func177.trans (congrArg some (by kernel_rfl))
  f243:=Tryz.func117.trans (congrArg some (by kernel_rfl))
  f244:=Tryz.func115.trans (congrArg some (by kernel_rfl))
  f245:=Tryz.func116.trans (congrArg some (by kernel_rfl))
  f246:=Tryz.func159.trans (congrArg some (by kernel_rfl))
  f247:=Tryz.func154.trans (congrArg some (by kernel_rfl))
  f279:=Tryz.func155.trans (congrArg some (by kernel_rfl))
  f280:=Tryz.func156.trans (congrArg some (by kernel_rfl))
  f281:=Tryz.func157.trans (congrArg some (by kernel_rfl))
  f282:=Tryz.func158.trans (congrArg some (by kernel_rfl))
  f283:=Tryz.func178.trans (congrArg some (by kernel_rfl))
  f284:=Tryz.func179.trans (congrArg some (by kernel_rfl))
  f285:=Tryz.func180.trans (congrArg some (by kernel_rfl))
  f286:=Tryz.func181.trans (congrArg some (by kernel_rfl))
  f287:=Tryz.func175.trans (congrArg some (by kernel_rfl))
  f316:=Tryz.func176.trans (congrArg some (by kernel_rfl))
  f317:=Tryz.func198.trans (congrArg some (by kernel_rfl))
  f318:=Tryz.func200.trans (congrArg some (by kernel_rfl))
  f319:=Tryz.func201.trans (congrArg some (by kernel_rfl))
  f320:=Tryz.func202.trans (congrArg some (by kernel_rfl))
  f321:=Tryz.func196.trans (congrArg some (by kernel_rfl))
  f322:=Tryz.func197.trans (congrArg some (by kernel_rfl))
  f337:=Tryz.func208.trans (congrArg some (by kernel_rfl))
  f338:=Tryz.func209.trans (congrArg some (by kernel_rfl))
  t0:=Tryz.underlying0
  a0:=Tryz.isAgg0
  z0:=Tryz.sizeOf0
  v0:=Tryz.zeroValue0
  t2:=Tryz.underlying2
  a2:=Tryz.isAgg2
  z2:=Tryz.sizeOf2
  v2:=Tryz.zeroValue2
  t3:=Tryz.underlying3
  a3:=Tryz.isAgg3
  z3:=Tryz.sizeOf3
  v3:=Tryz.zeroValue3
  t4:=Tryz.underlying4
  a4:=Tryz.isAgg4
  z4:=Tryz.sizeOf4
  v4:=Tryz.zeroValue4
  t5:=Tryz.underlying5
  a5:=Tryz.isAgg5
  z5:=Tryz.sizeOf5
  v5:=Tryz.zeroValue5
  t9:=Tryz.underlying9
  a9:=Tryz.isAgg9
  z9:=Tryz.sizeOf9
  v9:=Tryz.zeroValue9
  t20:=Tryz.underlying20
  a20:=Tryz.isAgg20
  z20:=Tryz.sizeOf20
  v20:=Tryz.zeroValue20
  t21:=Tryz.underlying21
  a21:=Tryz.isAgg21
  z21:=Tryz.sizeOf21
  v21:=Tryz.zeroValue21
  t37:=Tryz.underlying171
  a37:=Tryz.isAgg171
  z37:=Tryz.sizeOf171
  v37:=Tryz.zeroValue171
  t46:=Tryz.underlying192
  a46:=Tryz.isAgg192
  z46:=Tryz.sizeOf192
  v46:=Tryz.zeroValue192
  t51:=Tryz.underlying211
  a51:=Tryz.isAgg211
  z51:=Tryz.sizeOf211
  v51:=Tryz.zeroValue211
  t53:=Tryz.underlying200
  a53:=Tryz.isAgg200
  z53:=Tryz.sizeOf200
  v53:=Tryz.zeroValue200
  t75:=Tryz.underlying123
  a75:=Tryz.isAgg123
  z75:=Tryz.sizeOf123
  v75:=Tryz.zeroValue123
  t76:=Tryz.underlying124
  a76:=Tryz.isAgg124
  z76:=Tryz.sizeOf124
  v76:=Tryz.zeroValue124
  t85:=Tryz.underlying184
  a85:=Tryz.isAgg184
  z85:=Tryz.sizeOf184
  v85:=Tryz.zeroValue184
  t127:=Tryz.underlying199
  a127:=Tryz.isAgg199
  z127:=Tryz.sizeOf199
  v127:=Tryz.zeroValue199
  t143:=Tryz.underlying226
  a143:=Tryz.isAgg226
  z143:=Tryz.sizeOf226
  v143:=Tryz.zeroValue226
  t145:=Tryz.underlying228
  a145:=Tryz.isAgg228
  z145:=Tryz.sizeOf228
  v145:=Tryz.zeroValue228
  t167:=Tryz.underlying183
  a167:=Tryz.isAgg183
  z167:=Tryz.sizeOf183
  v167:=Tryz.zeroValue183
  t168:=Tryz.underlying186
  a168:=Tryz.isAgg186
  z168:=Tryz.sizeOf186
  v168:=Tryz.zeroValue186
  t171:=Tryz.underlying206
  a171:=Tryz.isAgg206
  z171:=Tryz.sizeOf206
  v171:=Tryz.zeroValue206
  t173:=Tryz.underlying209
  a173:=Tryz.isAgg209
  z173:=Tryz.sizeOf209
  v173:=Tryz.zeroValue209
  t175:=Tryz.underlying201
  a175:=Tryz.isAgg201
  z175:=Tryz.sizeOf201
  v175:=Tryz.zeroValue201
  t210:=Tryz.underlying204
  a210:=Tryz.isAgg204
  z210:=Tryz.sizeOf204
  v210:=Tryz.zeroValue204
  t212:=Tryz.underlying230
  a212:=Tryz.isAgg230
  z212:=Tryz.sizeOf230
  v212:=Tryz.zeroValue230
  t213:=Tryz.underlying231
  a213:=Tryz.isAgg231
  z213:=Tryz.sizeOf231
  t232:=Tryz.underlying240
  a232:=Tryz.isAgg240
  z232:=Tryz.sizeOf240
  v232:=Tryz.zeroValue240
  t233:=Tryz.underlying241
  a233:=Tryz.isAgg241
  z233:=Tryz.sizeOf241
  v233:=Tryz.zeroValue241
  g15:=by kernel_rfl
  g16:=by kernel_rfl
  g17:=by kernel_rfl
  g18:=by kernel_rfl
  g19:=by kernel_rfl }
open Go.RowKit in
theorem Tryz.strconv_Atoi(s:ByteArray)(n:Int)(hl:s.size<=18)(h:Lib.atoi s.data.toList=some n)(w:World):
    Calls Tryz.prog 76 #[.string s] w fun e w'=>e=.returned (.tuple #[.int .i64 n,.nilIface])/\∃ t,w'=Lib.bytesWorld w 5 t:=Any.strconv_Atoi Tryz.lays172 s n hl h w
def Tryz.laysM171_ren:Go.Shelf.Ren:=⟨fun | 171=>78 | 243=>117 | 246=>159 | 283=>178 | 284=>179 | 285=>180 | 286=>181 | 129=>199 | 317=>198 | 318=>200 | 319=>201 | 320=>202 | 337=>208 | 338=>209 | n=>n,fun | 3=>3 | 9=>9 | 2=>2 | 4=>4 | 171=>206 | 0=>0 | 53=>200 | 37=>171 | 5=>5 | 173=>209 | 212=>230 | 51=>211 | 20=>20 | 213=>231 | 46=>192 | 232=>240 | 233=>241 | n=>n,fun | 17=>4 | 18=>6 | 19=>7 | n=>n⟩
theorem Tryz.laysM171:Go.Proofs.LaysM.n171 Tryz.prog Tryz.laysM171_ren:={
  mixed:=by kernel_rfl
  f129:=Tryz.func199.trans (congrArg some (by kernel_rfl))
  f171:=Tryz.func78.trans (congrArg some (by kernel_rfl))
  f243:=Tryz.func117.trans (congrArg some (by kernel_rfl))
  f246:=Tryz.func159.trans (congrArg some (by kernel_rfl))
  f283:=Tryz.func178.trans (congrArg some (by kernel_rfl))
  f284:=Tryz.func179.trans (congrArg some (by kernel_rfl))
  f285:=Tryz.func180.trans (congrArg some (by kernel_rfl))
  f286:=Tryz.func181.trans (congrArg some (by kernel_rfl))
  f317:=Tryz.func198.trans (congrArg some (by kernel_rfl))
  f318:=Tryz.func200.trans (congrArg some (by kernel_rfl))
  f319:=Tryz.func201.trans (congrArg some (by kernel_rfl))
  f320:=Tryz.func202.trans (congrArg some (by kernel_rfl))
  f337:=Tryz.func208.trans (congrArg some (by kernel_rfl))
  f338:=Tryz.func209.trans (congrArg some (by kernel_rfl))
  t0:=Tryz.underlying0
  a0:=Tryz.isAgg0
  z0:=Tryz.sizeOf0
  v0:=Tryz.zeroValue0
  t2:=Tryz.underlying2
  a2:=Tryz.isAgg2
  z2:=Tryz.sizeOf2
  v2:=Tryz.zeroValue2
  t3:=Tryz.underlying3
  a3:=Tryz.isAgg3
  z3:=Tryz.sizeOf3
  v3:=Tryz.zeroValue3
  t4:=Tryz.underlying4
  a4:=Tryz.isAgg4
  z4:=Tryz.sizeOf4
  v4:=Tryz.zeroValue4
  t5:=Tryz.underlying5
  a5:=Tryz.isAgg5
  z5:=Tryz.sizeOf5
  v5:=Tryz.zeroValue5
  t9:=Tryz.underlying9
  a9:=Tryz.isAgg9
  z9:=Tryz.sizeOf9
  v9:=Tryz.zeroValue9
  t20:=Tryz.underlying20
  a20:=Tryz.isAgg20
  z20:=Tryz.sizeOf20
  v20:=Tryz.zeroValue20
  t37:=Tryz.underlying171
  a37:=Tryz.isAgg171
  z37:=Tryz.sizeOf171
  v37:=Tryz.zeroValue171
  t46:=Tryz.underlying192
  a46:=Tryz.isAgg192
  z46:=Tryz.sizeOf192
  v46:=Tryz.zeroValue192
  t51:=Tryz.underlying211
  a51:=Tryz.isAgg211
  z51:=Tryz.sizeOf211
  v51:=Tryz.zeroValue211
  t53:=Tryz.underlying200
  a53:=Tryz.isAgg200
  z53:=Tryz.sizeOf200
  v53:=Tryz.zeroValue200
  t171:=Tryz.underlying206
  a171:=Tryz.isAgg206
  z171:=Tryz.sizeOf206
  v171:=Tryz.zeroValue206
  t173:=Tryz.underlying209
  a173:=Tryz.isAgg209
  z173:=Tryz.sizeOf209
  v173:=Tryz.zeroValue209
  t212:=Tryz.underlying230
  a212:=Tryz.isAgg230
  z212:=Tryz.sizeOf230
  v212:=Tryz.zeroValue230
  t213:=Tryz.underlying231
  a213:=Tryz.isAgg231
  z213:=Tryz.sizeOf231
  t232:=Tryz.underlying240
  a232:=Tryz.isAgg240
  z232:=Tryz.sizeOf240
  v232:=Tryz.zeroValue240
  t233:=Tryz.underlying241
  a233:=Tryz.isAgg241
  z233:=Tryz.sizeOf241
  v233:=Tryz.zeroValue241
  g17:=by kernel_rfl
  g18:=by kernel_rfl
  g19:=by kernel_rfl
  i0:=by kernel_rfl
  i2:=by kernel_rfl
  i3:=by kernel_rfl
  i4:=by kernel_rfl
  i5:=by kernel_rfl
  i9:=by kernel_rfl
  i20:=by kernel_rfl
  i37:=by kernel_rfl
  i46:=by kernel_rfl
  i51:=by kernel_rfl
  i53:=by kernel_rfl
  i171:=by kernel_rfl
  i173:=by kernel_rfl
  i212:=by kernel_rfl
  i232:=by kernel_rfl
  i233:=by kernel_rfl
  m17:=by kernel_rfl
  m18:=by kernel_rfl
  m19:=by kernel_rfl }
open Go.RowKit Go.Sort Go.Lib in
theorem Tryz.strconv_Itoa(n:Int)(h0: -9223372036854775808<=n)(h1:n<=9223372036854775807)(w:World)(htab:Lib.TabIs Tryz.prog w "internal/strconv.uint64pow10" .u64 Lib.pow10Tab):
    Calls Tryz.prog 78 #[.int .i64 n] w fun e w'=>e=.returned (.string ⟨(Lib.itoa n).toArray⟩)/\∃ k os,w'=grow (w.drewN k) os:=Any.strconv_Itoa Tryz.laysM171 n h0 h1 w htab
def Tryz.laysC172_ren:Go.Shelf.Ren:=⟨fun | 172=>76 | 244=>115 | 245=>116 | 247=>154 | 279=>155 | 280=>156 | 281=>157 | 282=>158 | 287=>175 | 316=>176 | 171=>78 | 205=>177 | 321=>196 | 322=>197 | 243=>117 | 246=>159 | 283=>178 | 284=>179 | 285=>180 | 286=>181 | 129=>199 | 317=>198 | 318=>200 | 319=>201 | 320=>202 | 337=>208 | 338=>209 | n=>n,fun | 9=>9 | 3=>3 | 75=>123 | 76=>124 | 4=>4 | 5=>5 | 167=>183 | 37=>171 | 0=>0 | 85=>184 | 2=>2 | 168=>186 | 53=>200 | 175=>201 | 46=>192 | 210=>204 | 127=>199 | 145=>228 | 143=>226 | 21=>21 | 171=>206 | 173=>209 | 212=>230 | 51=>211 | 20=>20 | 213=>231 | 232=>240 | 233=>241 | 80=>177 | n=>n,fun | 15=>2 | 16=>3 | 17=>4 | 18=>6 | 19=>7 | n=>n⟩
theorem Tryz.laysC172:Go.Proofs.LaysC.n172 Tryz.prog Tryz.laysC172_ren:={
  mixed:=by kernel_rfl
  f129:=Tryz.func199.trans (congrArg some (by kernel_rfl))
  f171:=Tryz.func78.trans (congrArg some (by kernel_rfl))
  f172:=Tryz.func76.trans (congrArg some (by kernel_rfl))
  f205:=Tryz.func177.trans (congrArg some (by kernel_rfl))
  f243:=Tryz.func117.trans (congrArg some (by kernel_rfl))
  f244:=Tryz.func115.trans (congrArg some (by kernel_rfl))
  f245:=Tryz.func116.trans (congrArg some (by kernel_rfl))
  f246:=Tryz.func159.trans (congrArg some (by kernel_rfl))
  f247:=Tryz.func154.trans (congrArg some (by kernel_rfl))
  f279:=Tryz.func155.trans (congrArg some (by kernel_rfl))
  f280:=Tryz.func156.trans (congrArg some (by kernel_rfl))
  f281:=Tryz.func157.trans (congrArg some (by kernel_rfl))
  f282:=Tryz.func158.trans (congrArg some (by kernel_rfl))
  f283:=Tryz.func178.trans (congrArg some (by kernel_rfl))
  f284:=Tryz.func179.trans (congrArg some (by kernel_rfl))
  f285:=Tryz.func180.trans (congrArg some (by kernel_rfl))
  f286:=Tryz.func181.trans (congrArg some (by kernel_rfl))
  f287:=Tryz.func175.trans (congrArg some (by kernel_rfl))
  f316:=Tryz.func176.trans (congrArg some (by kernel_rfl))
  f317:=Tryz.func198.trans (congrArg some (by kernel_rfl))
  f318:=Tryz.func200.trans (congrArg some (by kernel_rfl))
  f319:=Tryz.func201.trans (congrArg some (by kernel_rfl))
  f320:=Tryz.func202.trans (congrArg some (by kernel_rfl))
  f321:=Tryz.func196.trans (congrArg some (by kernel_rfl))
  f322:=Tryz.func197.trans (congrArg some (by kernel_rfl))
  f337:=Tryz.func208.trans (congrArg some (by kernel_rfl))
  f338:=Tryz.func209.trans (congrArg some (by kernel_rfl))
  t0:=Tryz.underlying0
  a0:=Tryz.isAgg0
  z0:=Tryz.sizeOf0
  v0:=Tryz.zeroValue0
  t2:=Tryz.underlying2
  a2:=Tryz.isAgg2
  z2:=Tryz.sizeOf2
  v2:=Tryz.zeroValue2
  t3:=Tryz.underlying3
  a3:=Tryz.isAgg3
  z3:=Tryz.sizeOf3
  v3:=Tryz.zeroValue3
  t4:=Tryz.underlying4
  a4:=Tryz.isAgg4
  z4:=Tryz.sizeOf4
  v4:=Tryz.zeroValue4
  t5:=Tryz.underlying5
  a5:=Tryz.isAgg5
  z5:=Tryz.sizeOf5
  v5:=Tryz.zeroValue5
  t9:=Tryz.underlying9
  a9:=Tryz.isAgg9
  z9:=Tryz.sizeOf9
  v9:=Tryz.zeroValue9
  t20:=Tryz.underlying20
  a20:=Tryz.isAgg20
  z20:=Tryz.sizeOf20
  v20:=Tryz.zeroValue20
  t21:=Tryz.underlying21
  a21:=Tryz.isAgg21
  z21:=Tryz.sizeOf21
  v21:=Tryz.zeroValue21
  t37:=Tryz.underlying171
  a37:=Tryz.isAgg171
  z37:=Tryz.sizeOf171
  v37:=Tryz.zeroValue171
  t46:=Tryz.underlying192
  a46:=Tryz.isAgg192
  z46:=Tryz.sizeOf192
  v46:=Tryz.zeroValue192
  t51:=Tryz.underlying211
  a51:=Tryz.isAgg211
  z51:=Tryz.sizeOf211
  v51:=Tryz.zeroValue211
  t53:=Tryz.underlying200
  a53:=Tryz.isAgg200
  z53:=Tryz.sizeOf200
  v53:=Tryz.zeroValue200
  t75:=Tryz.underlying123
  a75:=Tryz.isAgg123
  z75:=Tryz.sizeOf123
  v75:=Tryz.zeroValue123
  t76:=Tryz.underlying124
  a76:=Tryz.isAgg124
  z76:=Tryz.sizeOf124
  v76:=Tryz.zeroValue124
  t85:=Tryz.underlying184
  a85:=Tryz.isAgg184
  z85:=Tryz.sizeOf184
  v85:=Tryz.zeroValue184
  t127:=Tryz.underlying199
  a127:=Tryz.isAgg199
  z127:=Tryz.sizeOf199
  v127:=Tryz.zeroValue199
  t143:=Tryz.underlying226
  a143:=Tryz.isAgg226
  z143:=Tryz.sizeOf226
  v143:=Tryz.zeroValue226
  t145:=Tryz.underlying228
  a145:=Tryz.isAgg228
  z145:=Tryz.sizeOf228
  v145:=Tryz.zeroValue228
  t167:=Tryz.underlying183
  a167:=Tryz.isAgg183
  z167:=Tryz.sizeOf183
  v167:=Tryz.zeroValue183
  t168:=Tryz.underlying186
  a168:=Tryz.isAgg186
  z168:=Tryz.sizeOf186
  v168:=Tryz.zeroValue186
  t171:=Tryz.underlying206
  a171:=Tryz.isAgg206
  z171:=Tryz.sizeOf206
  v171:=Tryz.zeroValue206
  t173:=Tryz.underlying209
  a173:=Tryz.isAgg209
  z173:=Tryz.sizeOf209
  v173:=Tryz.zeroValue209
  t175:=Tryz.underlying201
  a175:=Tryz.isAgg201
  z175:=Tryz.sizeOf201
  v175:=Tryz.zeroValue201
  t210:=Tryz.underlying204
  a210:=Tryz.isAgg204
  z210:=Tryz.sizeOf204
  v210:=Tryz.zeroValue204
  t212:=Tryz.underlying230
  a212:=Tryz.isAgg230
  z212:=Tryz.sizeOf230
  v212:=Tryz.zeroValue230
  t213:=Tryz.underlying231
  a213:=Tryz.isAgg231
  z213:=Tryz.sizeOf231
  t232:=Tryz.underlying240
  a232:=Tryz.isAgg240
  z232:=Tryz.sizeOf240
  v232:=Tryz.zeroValue240
  t233:=Tryz.underlying241
  a233:=Tryz.isAgg241
  z233:=Tryz.sizeOf241
  v233:=Tryz.zeroValue241
  g15:=by kernel_rfl
  g16:=by kernel_rfl
  g17:=by kernel_rfl
  g18:=by kernel_rfl
  g19:=by kernel_rfl
  t80:=Tryz.underlying177
  a80:=Tryz.isAgg177
  z80:=Tryz.sizeOf177
  v80:=Tryz.zeroValue177
  i0:=by kernel_rfl
  i2:=by kernel_rfl
  i3:=by kernel_rfl
  i4:=by kernel_rfl
  i5:=by kernel_rfl
  i9:=by kernel_rfl
  i20:=by kernel_rfl
  i21:=by kernel_rfl
  i37:=by kernel_rfl
  i46:=by kernel_rfl
  i51:=by kernel_rfl
  i53:=by kernel_rfl
  i75:=by kernel_rfl
  i76:=by kernel_rfl
  i80:=by kernel_rfl
  i85:=by kernel_rfl
  i127:=by kernel_rfl
  i143:=by kernel_rfl
  i145:=by kernel_rfl
  i167:=by kernel_rfl
  i168:=by kernel_rfl
  i171:=by kernel_rfl
  i173:=by kernel_rfl
  i175:=by kernel_rfl
  i210:=by kernel_rfl
  i212:=by kernel_rfl
  i232:=by kernel_rfl
  i233:=by kernel_rfl
  m15:=by kernel_rfl
  m16:=by kernel_rfl
  m17:=by kernel_rfl
  m18:=by kernel_rfl
  m19:=by kernel_rfl
  c0:=by kernel_rfl
  c2:=by kernel_rfl
  c3:=by kernel_rfl
  c4:=by kernel_rfl
  c5:=by kernel_rfl
  c9:=by kernel_rfl
  c20:=by kernel_rfl
  c21:=by kernel_rfl
  c37:=by kernel_rfl
  c46:=by kernel_rfl
  c51:=by kernel_rfl
  c53:=by kernel_rfl
  c75:=by kernel_rfl
  c76:=by kernel_rfl
  c80:=by kernel_rfl
  c85:=by kernel_rfl
  c127:=by kernel_rfl
  c143:=by kernel_rfl
  c145:=by kernel_rfl
  c167:=by kernel_rfl
  c168:=by kernel_rfl
  c171:=by kernel_rfl
  c173:=by kernel_rfl
  c175:=by kernel_rfl
  c210:=by kernel_rfl
  c212:=by kernel_rfl
  c213:=by kernel_rfl
  c232:=by kernel_rfl
  c233:=by kernel_rfl }
open Go.RowKit in
theorem Tryz.strconv_Atoi_ok(s:ByteArray)(hmax:s.size<=9223372036854775806)(v:Int)(h:Lib.atoiAll s.data.toList=.ok v)(w:World):
    Calls Tryz.prog 76 #[.string s] w fun e w'=>e=.returned (.tuple #[.int .i64 v,.nilIface])/\(w'=w\/∃ t,w'=Lib.bytesWorld w 5 t):=Any.strconv_Atoi_ok Tryz.laysC172 s hmax v h w
open Go.RowKit in
theorem Tryz.strconv_Atoi_range_var(s:ByteArray)(hlim:s.size<=281474976710656)(h:Lib.atoiAll s.data.toList=.range)(tp:TypeId)(p:Value)(w:World)(hvar:w.var? Tryz.prog "strconv.ErrRange"=some #[.iface tp p]):
    Calls Tryz.prog 76 #[.string s] w fun e w'=>∃ N,e=.returned (.tuple #[.int .i64 (Lib.atoiSat s.data.toList),.iface 186 (.pointer (some ⟨N,0,none⟩))])/\w.heap.size<=N/\w'.heap[N]?=some (.cells #[.string ⟨#[65,116,111,105]⟩,.string s,.iface tp p] 204 (0,0))/\Below w.heap.size w w':=Any.strconv_Atoi_range_var Tryz.laysC172 s hlim h tp p w hvar
def Tryz.lays101_ren:Go.Shelf.Ren:=⟨fun | 101=>170 | 208=>187 | 206=>185 | n=>n,fun | 9=>9 | 4=>4 | 3=>3 | n=>n,fun | n=>n⟩
theorem Tryz.lays101:Go.Proofs.Lays.n101 Tryz.prog Tryz.lays101_ren:={
  mixed:=by kernel_rfl
  f101:=Tryz.func170.trans (congrArg some (by kernel_rfl))
  f206:=Tryz.func185.trans (congrArg some (by kernel_rfl))
  f208:=Tryz.func187.trans (congrArg some (by kernel_rfl))
  t3:=Tryz.underlying3
  a3:=Tryz.isAgg3
  z3:=Tryz.sizeOf3
  v3:=Tryz.zeroValue3
  t4:=Tryz.underlying4
  a4:=Tryz.isAgg4
  z4:=Tryz.sizeOf4
  v4:=Tryz.zeroValue4
  t9:=Tryz.underlying9
  a9:=Tryz.isAgg9
  z9:=Tryz.sizeOf9
  v9:=Tryz.zeroValue9 }
open Go.RowKit Go.Lib in
theorem Tryz.strings_TrimPrefix(s p:ByteArray)(w:World):
    Calls Tryz.prog 170 #[.string s,.string p] w fun e w'=>e=.returned (.string ⟨(Lib.trimPrefix s.data.toList p.data.toList).toArray⟩)/\w'=w:=Any.strings_TrimPrefix Tryz.lays101 s p w
def Tryz.lays227_ren:Go.Shelf.Ren:=⟨fun | 227=>190 | n=>n,fun | 9=>9 | 116=>218 | 4=>4 | 0=>0 | 3=>3 | 5=>5 | n=>n,fun | n=>n⟩
theorem Tryz.lays227:Go.Proofs.Lays.n227 Tryz.prog Tryz.lays227_ren:={
  mixed:=by kernel_rfl
  f227:=Tryz.func190.trans (congrArg some (by kernel_rfl))
  t0:=Tryz.underlying0
  a0:=Tryz.isAgg0
  z0:=Tryz.sizeOf0
  v0:=Tryz.zeroValue0
  t3:=Tryz.underlying3
  a3:=Tryz.isAgg3
  z3:=Tryz.sizeOf3
  v3:=Tryz.zeroValue3
  t4:=Tryz.underlying4
  a4:=Tryz.isAgg4
  z4:=Tryz.sizeOf4
  v4:=Tryz.zeroValue4
  t5:=Tryz.underlying5
  a5:=Tryz.isAgg5
  z5:=Tryz.sizeOf5
  v5:=Tryz.zeroValue5
  t9:=Tryz.underlying9
  a9:=Tryz.isAgg9
  z9:=Tryz.sizeOf9
  v9:=Tryz.zeroValue9
  t116:=Tryz.underlying218
  a116:=Tryz.isAgg218
  z116:=Tryz.sizeOf218 }
open Go.RowKit Go.Lib in
theorem Tryz.strings_makeASCIISet(hv116:∀ w,(zeroValue 218).run Tryz.prog w=.ok (.agg (Array.replicate 256 (.bool false))) w)(chars:ByteArray)(w:World)(hs:chars.size < 4294967281)(hascii:∀(j:Nat) b,chars.data.toList[j]?=some b->b.toNat < 128):
    Calls Tryz.prog 190 #[.string chars] w fun e w'=>e=.returned (.tuple #[.agg (Lib.setCells chars.data.toList),.bool true])/\w'=w.alloc (.cells (Lib.setCells chars.data.toList) 218):=Any.strings_makeASCIISet Tryz.lays227 hv116 (by kernel_rfl) chars w hs hascii
def Tryz.lays228_ren:Go.Shelf.Ren:=⟨fun | 228=>204 | n=>n,fun | 124=>222 | 5=>5 | 4=>4 | 0=>0 | 116=>218 | n=>n,fun | n=>n⟩
theorem Tryz.lays228:Go.Proofs.Lays.n228 Tryz.prog Tryz.lays228_ren:={
  mixed:=by kernel_rfl
  f228:=Tryz.func204.trans (congrArg some (by kernel_rfl))
  t0:=Tryz.underlying0
  a0:=Tryz.isAgg0
  z0:=Tryz.sizeOf0
  v0:=Tryz.zeroValue0
  t4:=Tryz.underlying4
  a4:=Tryz.isAgg4
  z4:=Tryz.sizeOf4
  v4:=Tryz.zeroValue4
  t5:=Tryz.underlying5
  a5:=Tryz.isAgg5
  z5:=Tryz.sizeOf5
  v5:=Tryz.zeroValue5
  t116:=Tryz.underlying218
  a116:=Tryz.isAgg218
  z116:=Tryz.sizeOf218
  t124:=Tryz.underlying222
  a124:=Tryz.isAgg222
  z124:=Tryz.sizeOf222
  v124:=Tryz.zeroValue222 }
open Go.RowKit Go.Lib in
theorem Tryz.asciiSet_contains(b:Nat)(x:UInt8)(v:Bool)(w:World)(hc:w.cell? ⟨b,x.toNat,none⟩=some (.bool v)):
    Calls Tryz.prog 204 #[.pointer (some ⟨b,0,none⟩),.int .u8 x.toNat] w fun e w'=>e=.returned (.bool v)/\w'=w:=Any.asciiSet_contains Tryz.lays228 b x v w hc
def Tryz.lays105_ren:Go.Shelf.Ren:=⟨fun | 105=>136 | 212=>165 | 99=>166 | 165=>167 | 166=>142 | 170=>168 | 169=>143 | 263=>183 | 264=>184 | 206=>185 | 240=>173 | 241=>186 | 276=>195 | 277=>203 | n=>n,fun | 9=>9 | 3=>3 | 4=>4 | 20=>20 | 0=>0 | 46=>192 | 109=>193 | 5=>5 | 72=>173 | 76=>124 | 51=>211 | 146=>212 | 53=>200 | 148=>214 | 70=>170 | 37=>171 | 75=>123 | 127=>199 | 164=>223 | 80=>177 | n=>n,fun | n=>n⟩
theorem Tryz.lays105:Go.Proofs.Lays.n105 Tryz.prog Tryz.lays105_ren:={
  mixed:=by kernel_rfl
  f99:=Tryz.func166.trans (congrArg some (by kernel_rfl))
  f105:=Tryz.func136.trans (congrArg some (by kernel_rfl))
  f165:=Tryz.func167.trans (congrArg some (by kernel_rfl))
  f166:=Tryz.func142.trans (congrArg some (by kernel_rfl))
  f169:=Tryz.func143.trans (congrArg some (by kernel_rfl))
  f170:=Tryz.func168.trans (congrArg some (by kernel_rfl))
  f206:=Tryz.func185.trans (congrArg some (by kernel_rfl))
  f212:=Tryz.func165.trans (congrArg some (by kernel_rfl))
  f240:=Tryz.func173.trans (congrArg some (by kernel_rfl))
  f241:=Tryz.func186.trans (congrArg some (by kernel_rfl))
  f263:=Tryz.func183.trans (congrArg some (by kernel_rfl))
  f264:=Tryz.func184.trans (congrArg some (by kernel_rfl))
  f276:=Tryz.func195.trans (congrArg some (by kernel_rfl))
  f277:=Tryz.func203.trans (congrArg some (by kernel_rfl))
  t0:=Tryz.underlying0
  a0:=Tryz.isAgg0
  z0:=Tryz.sizeOf0
  v0:=Tryz.zeroValue0
  t3:=Tryz.underlying3
  a3:=Tryz.isAgg3
  z3:=Tryz.sizeOf3
  v3:=Tryz.zeroValue3
  t4:=Tryz.underlying4
  a4:=Tryz.isAgg4
  z4:=Tryz.sizeOf4
  v4:=Tryz.zeroValue4
  t5:=Tryz.underlying5
  a5:=Tryz.isAgg5
  z5:=Tryz.sizeOf5
  v5:=Tryz.zeroValue5
  t9:=Tryz.underlying9
  a9:=Tryz.isAgg9
  z9:=Tryz.sizeOf9
  v9:=Tryz.zeroValue9
  t20:=Tryz.underlying20
  a20:=Tryz.isAgg20
  z20:=Tryz.sizeOf20
  v20:=Tryz.zeroValue20
  t37:=Tryz.underlying171
  a37:=Tryz.isAgg171
  z37:=Tryz.sizeOf171
  v37:=Tryz.zeroValue171
  t46:=Tryz.underlying192
  a46:=Tryz.isAgg192
  z46:=Tryz.sizeOf192
  v46:=Tryz.zeroValue192
  t51:=Tryz.underlying211
  a51:=Tryz.isAgg211
  z51:=Tryz.sizeOf211
  v51:=Tryz.zeroValue211
  t53:=Tryz.underlying200
  a53:=Tryz.isAgg200
  z53:=Tryz.sizeOf200
  v53:=Tryz.zeroValue200
  t70:=Tryz.underlying170
  a70:=Tryz.isAgg170
  z70:=Tryz.sizeOf170
  v70:=Tryz.zeroValue170
  t72:=Tryz.underlying173
  a72:=Tryz.isAgg173
  z72:=Tryz.sizeOf173
  v72:=Tryz.zeroValue173
  t75:=Tryz.underlying123
  a75:=Tryz.isAgg123
  z75:=Tryz.sizeOf123
  v75:=Tryz.zeroValue123
  t76:=Tryz.underlying124
  a76:=Tryz.isAgg124
  z76:=Tryz.sizeOf124
  v76:=Tryz.zeroValue124
  t109:=Tryz.underlying193
  a109:=Tryz.isAgg193
  z109:=Tryz.sizeOf193
  v109:=Tryz.zeroValue193
  t127:=Tryz.underlying199
  a127:=Tryz.isAgg199
  z127:=Tryz.sizeOf199
  v127:=Tryz.zeroValue199
  t146:=Tryz.underlying212
  a146:=Tryz.isAgg212
  z146:=Tryz.sizeOf212
  v146:=Tryz.zeroValue212
  t148:=Tryz.underlying214
  a148:=Tryz.isAgg214
  z148:=Tryz.sizeOf214
  v148:=Tryz.zeroValue214
  t164:=Tryz.underlying223
  a164:=Tryz.isAgg223
  z164:=Tryz.sizeOf223
  v164:=Tryz.zeroValue223 }
theorem Tryz.Builder_Extra_105:Builder.Extra Tryz.prog Tryz.lays105_ren:={
  sizeBuilder:=by kernel_rfl
  liesBuilder:=by kernel_rfl
  t5:=Tryz.underlying5
  a5:=Tryz.isAgg5
  z5:=Tryz.sizeOf5
  v5:=Tryz.zeroValue5
  infoByte:=by kernel_rfl
  cellsByte:=by kernel_rfl
  sizeByte:=by kernel_rfl
  neB5:=by decide }
open Go.RowKit Go.Lib in
theorem Tryz.strings_Repeat(s:ByteArray)(c:Nat)(w:World)(hc:c<=9223372036854775807)(hlen:s.size * c<=140737488355328):
    Calls Tryz.prog 136 #[.string s,.int .i64 c] w fun e w'=>e=.returned (.string ⟨(Lib.repeatL s.data.toList c).toArray⟩)/\Below w.heap.size w w':=Any.strings_Repeat Tryz.lays105 Tryz.Builder_Extra_105 s c w hc hlen
end Go.Proofs
