/- Lemmas for the claim beside this text. -/
import Derived.Test.YtjieekkkaekclaaGreatDoorProg
import Derived.Test.YtjieekkkaekclaaGreatDoorZBAD
import Derived.Test.YtjieekkkaekclaaGreatDoorZBAK
import Derived.Lib.AtoiErrMem
import Derived.Lib.ItoaNum
import Derived.Lib.Repeat
import Derived.Maps.AppendAt
import Derived.RangeFuncBox
import Derived.RangeFuncLeaves
import Derived.Shelf.LaysM
import Derived.Shelf.Small.Wraps
import Derived.Shelf.Strconv.Atoi
import Derived.Shelf.Strconv.Itoa0
import Derived.Shelf.Strconv.Itoa1
import Derived.Shelf.Strconv.Itoa2
import Derived.Shelf.Strconv.Itoa3
import Derived.Shelf.Strings.Builder1
import Derived.Shelf.Strings.Builder2
import Derived.Shelf.Strings.BuilderF
import Derived.Shelf.Strings.BuilderK
import Derived.Shelf.Strings.Prefix
import Derived.Shelf.Strings.Repeat
set_option linter.all false
set_option linter.unusedVariables false
set_option linter.unusedSimpArgs false
set_option maxHeartbeats 2000000
set_option maxRecDepth 100000
namespace Go.Proofs
open Go.Shelf
def Tryz.aCo:Go.Shelf.Ren:=⟨fun|169=>158|n=>n,fun|70=>163|9=>9|0=>0|72=>165|37=>104|127=>192|3=>3|5=>5|n=>n,fun|n=>n⟩
theorem Tryz.aLp:Go.Proofs.Lays.n169 Tryz.prog Tryz.aCo:={
 mixed:=by kernel_rfl
 f169:=Zq.ft Tryz.func158
 t0:=Tryz.underlying0
 a0:=Tryz.isAgg0
 z0:=Tryz.sizeOf0
 v0:=Tryz.zeroValue0
 t3:=Tryz.underlying3
 a3:=Tryz.isAgg3
 z3:=Tryz.sizeOf3
 v3:=Tryz.zeroValue3
 t9:=Tryz.underlying9
 a9:=Tryz.isAgg9
 z9:=Tryz.sizeOf9
 v9:=Tryz.zeroValue9
 t37:=Tryz.underlying104
 a37:=Tryz.isAgg104
 z37:=Tryz.sizeOf104
 v37:=Tryz.zeroValue104
 t70:=Tryz.underlying163
 a70:=Tryz.isAgg163
 z70:=Tryz.sizeOf163
 v70:=Tryz.zeroValue163
 t72:=Tryz.underlying165
 a72:=Tryz.isAgg165
 z72:=Tryz.sizeOf165
 v72:=Tryz.zeroValue165
 t127:=Tryz.underlying192
 a127:=Tryz.isAgg192
 z127:=Tryz.sizeOf192
 v127:=Tryz.zeroValue192}
theorem Tryz.aBU:Builder.Extra Tryz.prog Tryz.aCo:={
 sizeBuilder:=by kernel_rfl
 liesBuilder:=by kernel_rfl
 t5:=Tryz.underlying5
 a5:=Tryz.isAgg5
 z5:=Tryz.sizeOf5
 v5:=Tryz.zeroValue5
 infoByte:=by kernel_rfl
 cellsByte:=by kernel_rfl
 sizeByte:=by kernel_rfl
 neB5:=by decide}
open Go.RowKit in
theorem Tryz.Builder_String_any_k (B b:Nat) (l:List UInt8) (w:World) (h:Lib.IsBuilderF 165 5 B b (Lib.byteCells l) w) (hBw:B<=w.heap.size):
 Calls Tryz.prog 158 #[.pointer (some ⟨b,0,none⟩)] w fun e w'=>e = .returned (.string ⟨l.toArray⟩)/\(Lib.IsBuilderF 165 5 B b (Lib.byteCells l) w'/\Below B w w'/\Lib.OthersKept 5 (some b) w w'):=Any.Builder_String_any_k Tryz.aLp Tryz.aBU B b l w h hBw
def Tryz.aG2:Go.Shelf.Ren:=⟨fun|172=>153|244=>170|245=>171|247=>177|279=>178|280=>179|281=>180|282=>181|287=>187|316=>188|171=>156|205=>189|321=>195|322=>196|243=>173|246=>183|283=>190|284=>191|285=>192|286=>193|129=>198|317=>197|318=>199|319=>200|320=>201|337=>202|338=>203|n=>n,fun|9=>9|3=>3|75=>112|76=>161|4=>4|5=>5|167=>193|37=>104|0=>0|85=>194|2=>2|168=>196|53=>63|175=>205|46=>138|210=>208|127=>192|145=>219|143=>217|21=>21|171=>210|173=>213|212=>221|51=>121|20=>20|213=>222|232=>225|233=>226|80=>118|n=>n,fun|15=>1|16=>2|17=>3|18=>5|19=>6|n=>n⟩
theorem Tryz.aLo:Go.Proofs.Lays.n172 Tryz.prog Tryz.aG2:={
 mixed:=by kernel_rfl
 f129:=Zq.ft Tryz.func198
 f171:=Zq.ft Tryz.func156
 f172:=Zq.ft Tryz.func153
 f205:=Zq.ft Tryz.func189
 f243:=Zq.ft Tryz.func173
 f244:=Zq.ft Tryz.func170
 f245:=Zq.ft Tryz.func171
 f246:=Zq.ft Tryz.func183
 f247:=Zq.ft Tryz.func177
 f279:=Zq.ft Tryz.func178
 f280:=Zq.ft Tryz.func179
 f281:=Zq.ft Tryz.func180
 f282:=Zq.ft Tryz.func181
 f283:=Zq.ft Tryz.func190
 f284:=Zq.ft Tryz.func191
 f285:=Zq.ft Tryz.func192
 f286:=Zq.ft Tryz.func193
 f287:=Zq.ft Tryz.func187
 f316:=Zq.ft Tryz.func188
 f317:=Zq.ft Tryz.func197
 f318:=Zq.ft Tryz.func199
 f319:=Zq.ft Tryz.func200
 f320:=Zq.ft Tryz.func201
 f321:=Zq.ft Tryz.func195
 f322:=Zq.ft Tryz.func196
 f337:=Zq.ft Tryz.func202
 f338:=Zq.ft Tryz.func203
 t0:=Tryz.underlying0
 a0:=Tryz.isAgg0
 z0:=Tryz.sizeOf0
 v0:=Tryz.zeroValue0
 t2:=Tryz.underlying2
 a2:=Tryz.isAgg2
 z2:=Tryz.sizeOf2
 v2:=Tryz.zeroValue2
 t3:=Tryz.underlying3
 a3:=Tryz.isAgg3
 z3:=Tryz.sizeOf3
 v3:=Tryz.zeroValue3
 t4:=Tryz.underlying4
 a4:=Tryz.isAgg4
 z4:=Tryz.sizeOf4
 v4:=Tryz.zeroValue4
 t5:=Tryz.underlying5
 a5:=Tryz.isAgg5
 z5:=Tryz.sizeOf5
 v5:=Tryz.zeroValue5
 t9:=Tryz.underlying9
 a9:=Tryz.isAgg9
 z9:=Tryz.sizeOf9
 v9:=Tryz.zeroValue9
 t20:=Tryz.underlying20
 a20:=Tryz.isAgg20
 z20:=Tryz.sizeOf20
 v20:=Tryz.zeroValue20
 t21:=Tryz.underlying21
 a21:=Tryz.isAgg21
 z21:=Tryz.sizeOf21
 v21:=Tryz.zeroValue21
 t37:=Tryz.underlying104
 a37:=Tryz.isAgg104
 z37:=Tryz.sizeOf104
 v37:=Tryz.zeroValue104
 t46:=Tryz.underlying138
 a46:=Tryz.isAgg138
 z46:=Tryz.sizeOf138
 v46:=Tryz.zeroValue138
 t51:=Tryz.underlying121
 a51:=Tryz.isAgg121
 z51:=Tryz.sizeOf121
 v51:=Tryz.zeroValue121
 t53:=Tryz.underlying63
 a53:=Tryz.isAgg63
 z53:=Tryz.sizeOf63
 v53:=Tryz.zeroValue63
 t75:=Tryz.underlying112
 a75:=Tryz.isAgg112
 z75:=Tryz.sizeOf112
 v75:=Tryz.zeroValue112
 t76:=Tryz.underlying161
 a76:=Tryz.isAgg161
 z76:=Tryz.sizeOf161
 v76:=Tryz.zeroValue161
 t85:=Tryz.underlying194
 a85:=Tryz.isAgg194
 z85:=Tryz.sizeOf194
 v85:=Tryz.zeroValue194
 t127:=Tryz.underlying192
 a127:=Tryz.isAgg192
 z127:=Tryz.sizeOf192
 v127:=Tryz.zeroValue192
 t143:=Tryz.underlying217
 a143:=Tryz.isAgg217
 z143:=Tryz.sizeOf217
 v143:=Tryz.zeroValue217
 t145:=Tryz.underlying219
 a145:=Tryz.isAgg219
 z145:=Tryz.sizeOf219
 v145:=Tryz.zeroValue219
 t167:=Tryz.underlying193
 a167:=Tryz.isAgg193
 z167:=Tryz.sizeOf193
 v167:=Tryz.zeroValue193
 t168:=Tryz.underlying196
 a168:=Tryz.isAgg196
 z168:=Tryz.sizeOf196
 v168:=Tryz.zeroValue196
 t171:=Tryz.underlying210
 a171:=Tryz.isAgg210
 z171:=Tryz.sizeOf210
 v171:=Tryz.zeroValue210
 t173:=Tryz.underlying213
 a173:=Tryz.isAgg213
 z173:=Tryz.sizeOf213
 v173:=Tryz.zeroValue213
 t175:=Tryz.underlying205
 a175:=Tryz.isAgg205
 z175:=Tryz.sizeOf205
 v175:=Tryz.zeroValue205
 t210:=Tryz.underlying208
 a210:=Tryz.isAgg208
 z210:=Tryz.sizeOf208
 v210:=Tryz.zeroValue208
 t212:=Tryz.underlying221
 a212:=Tryz.isAgg221
 z212:=Tryz.sizeOf221
 v212:=Tryz.zeroValue221
 t213:=Tryz.underlying222
 a213:=Tryz.isAgg222
 z213:=Tryz.sizeOf222
 t232:=Tryz.underlying225
 a232:=Tryz.isAgg225
 z232:=Tryz.sizeOf225
 v232:=Tryz.zeroValue225
 t233:=Tryz.underlying226
 a233:=Tryz.isAgg226
 z233:=Tryz.sizeOf226
 v233:=Tryz.zeroValue226
 g15:=by kernel_rfl
 g16:=by kernel_rfl
 g17:=by kernel_rfl
 g18:=by kernel_rfl
 g19:=by kernel_rfl}
open Go.RowKit in
theorem Tryz.strconv_Atoi (s:ByteArray) (n:Int) (hl:s.size<=18) (h:Lib.atoi s.data.toList=some n) (w:World):
 Calls Tryz.prog 153 #[.string s] w fun e w'=>e = .returned (.tuple #[.int .i64 n,.nilIface])/\∃t,w'=Lib.bytesWorld w 5 t:=Any.strconv_Atoi Tryz.aLo s n hl h w
def Tryz.aET:Go.Shelf.Ren:=⟨fun|171=>156|243=>173|246=>183|283=>190|284=>191|285=>192|286=>193|129=>198|317=>197|318=>199|319=>200|320=>201|337=>202|338=>203|n=>n,fun|3=>3|9=>9|2=>2|4=>4|171=>210|0=>0|53=>63|37=>104|5=>5|173=>213|212=>221|51=>121|20=>20|213=>222|46=>138|232=>225|233=>226|n=>n,fun|17=>3|18=>5|19=>6|n=>n⟩
theorem Tryz.aK2:Go.Proofs.LaysM.n171 Tryz.prog Tryz.aET:={
 mixed:=by kernel_rfl
 f129:=Zq.ft Tryz.func198
 f171:=Zq.ft Tryz.func156
 f243:=Zq.ft Tryz.func173
 f246:=Zq.ft Tryz.func183
 f283:=Zq.ft Tryz.func190
 f284:=Zq.ft Tryz.func191
 f285:=Zq.ft Tryz.func192
 f286:=Zq.ft Tryz.func193
 f317:=Zq.ft Tryz.func197
 f318:=Zq.ft Tryz.func199
 f319:=Zq.ft Tryz.func200
 f320:=Zq.ft Tryz.func201
 f337:=Zq.ft Tryz.func202
 f338:=Zq.ft Tryz.func203
 t0:=Tryz.underlying0
 a0:=Tryz.isAgg0
 z0:=Tryz.sizeOf0
 v0:=Tryz.zeroValue0
 t2:=Tryz.underlying2
 a2:=Tryz.isAgg2
 z2:=Tryz.sizeOf2
 v2:=Tryz.zeroValue2
 t3:=Tryz.underlying3
 a3:=Tryz.isAgg3
 z3:=Tryz.sizeOf3
 v3:=Tryz.zeroValue3
 t4:=Tryz.underlying4
 a4:=Tryz.isAgg4
 z4:=Tryz.sizeOf4
 v4:=Tryz.zeroValue4
 t5:=Tryz.underlying5
 a5:=Tryz.isAgg5
 z5:=Tryz.sizeOf5
 v5:=Tryz.zeroValue5
 t9:=Tryz.underlying9
 a9:=Tryz.isAgg9
 z9:=Tryz.sizeOf9
 v9:=Tryz.zeroValue9
 t20:=Tryz.underlying20
 a20:=Tryz.isAgg20
 z20:=Tryz.sizeOf20
 v20:=Tryz.zeroValue20
 t37:=Tryz.underlying104
 a37:=Tryz.isAgg104
 z37:=Tryz.sizeOf104
 v37:=Tryz.zeroValue104
 t46:=Tryz.underlying138
 a46:=Tryz.isAgg138
 z46:=Tryz.sizeOf138
 v46:=Tryz.zeroValue138
 t51:=Tryz.underlying121
 a51:=Tryz.isAgg121
 z51:=Tryz.sizeOf121
 v51:=Tryz.zeroValue121
 t53:=Tryz.underlying63
 a53:=Tryz.isAgg63
 z53:=Tryz.sizeOf63
 v53:=Tryz.zeroValue63
 t171:=Tryz.underlying210
 a171:=Tryz.isAgg210
 z171:=Tryz.sizeOf210
 v171:=Tryz.zeroValue210
 t173:=Tryz.underlying213
 a173:=Tryz.isAgg213
 z173:=Tryz.sizeOf213
 v173:=Tryz.zeroValue213
 t212:=Tryz.underlying221
 a212:=Tryz.isAgg221
 z212:=Tryz.sizeOf221
 v212:=Tryz.zeroValue221
 t213:=Tryz.underlying222
 a213:=Tryz.isAgg222
 z213:=Tryz.sizeOf222
 t232:=Tryz.underlying225
 a232:=Tryz.isAgg225
 z232:=Tryz.sizeOf225
 v232:=Tryz.zeroValue225
 t233:=Tryz.underlying226
 a233:=Tryz.isAgg226
 z233:=Tryz.sizeOf226
 v233:=Tryz.zeroValue226
 g17:=by kernel_rfl
 g18:=by kernel_rfl
 g19:=by kernel_rfl
 i0:=by kernel_rfl
 i2:=by kernel_rfl
 i3:=by kernel_rfl
 i4:=by kernel_rfl
 i5:=by kernel_rfl
 i9:=by kernel_rfl
 i20:=by kernel_rfl
 i37:=by kernel_rfl
 i46:=by kernel_rfl
 i51:=by kernel_rfl
 i53:=by kernel_rfl
 i171:=by kernel_rfl
 i173:=by kernel_rfl
 i212:=by kernel_rfl
 i232:=by kernel_rfl
 i233:=by kernel_rfl
 m17:=by kernel_rfl
 m18:=by kernel_rfl
 m19:=by kernel_rfl}
open Go.RowKit Go.Sort Go.Lib in
theorem Tryz.strconv_Itoa (n:Int) (h0 : -9223372036854775808<=n) (h1:n<=9223372036854775807) (w:World) (htab:Lib.TabIs Tryz.prog w "internal/strconv.uint64pow10" .u64 Lib.pow10Tab):
 Calls Tryz.prog 156 #[.int .i64 n] w fun e w'=>e = .returned (.string ⟨(Lib.itoa n).toArray⟩)/\∃k os,w'=grow (w.drewN k) os:=Any.strconv_Itoa Tryz.aK2 n h0 h1 w htab
def Tryz.aGX:Go.Shelf.Ren:=⟨fun|99=>151|206=>165|n=>n,fun|9=>9|4=>4|3=>3|n=>n,fun|n=>n⟩
theorem Tryz.aMC:Go.Proofs.Lays.n99 Tryz.prog Tryz.aGX:={
 mixed:=by kernel_rfl
 f99:=Zq.ft Tryz.func151
 f206:=Zq.ft Tryz.func165
 t3:=Tryz.underlying3
 a3:=Tryz.isAgg3
 z3:=Tryz.sizeOf3
 v3:=Tryz.zeroValue3
 t4:=Tryz.underlying4
 a4:=Tryz.isAgg4
 z4:=Tryz.sizeOf4
 v4:=Tryz.zeroValue4
 t9:=Tryz.underlying9
 a9:=Tryz.isAgg9
 z9:=Tryz.sizeOf9
 v9:=Tryz.zeroValue9}
open Go.RowKit Go.Lib in
theorem Tryz.strings_HasPrefix (s p:ByteArray) (w:World):
 Calls Tryz.prog 151 #[.string s,.string p] w fun e w'=>e = .returned (.bool (Lib.hasPrefix s.data.toList p.data.toList))/\w'=w:=Any.strings_HasPrefix Tryz.aMC s p w
def Tryz.aG3:Go.Shelf.Ren:=⟨fun|101=>121|208=>145|206=>165|n=>n,fun|9=>9|4=>4|3=>3|n=>n,fun|n=>n⟩
theorem Tryz.aLt:Go.Proofs.Lays.n101 Tryz.prog Tryz.aG3:={
 mixed:=by kernel_rfl
 f101:=Zq.ft Tryz.func121
 f206:=Zq.ft Tryz.func165
 f208:=Zq.ft Tryz.func145
 t3:=Tryz.underlying3
 a3:=Tryz.isAgg3
 z3:=Tryz.sizeOf3
 v3:=Tryz.zeroValue3
 t4:=Tryz.underlying4
 a4:=Tryz.isAgg4
 z4:=Tryz.sizeOf4
 v4:=Tryz.zeroValue4
 t9:=Tryz.underlying9
 a9:=Tryz.isAgg9
 z9:=Tryz.sizeOf9
 v9:=Tryz.zeroValue9}
open Go.RowKit Go.Lib in
theorem Tryz.strings_TrimPrefix (s p:ByteArray) (w:World):
 Calls Tryz.prog 121 #[.string s,.string p] w fun e w'=>e = .returned (.string ⟨(Lib.trimPrefix s.data.toList p.data.toList).toArray⟩)/\w'=w:=Any.strings_TrimPrefix Tryz.aLt s p w
def Tryz.aCr:Go.Shelf.Ren:=⟨fun|105=>157|212=>174|99=>151|165=>175|166=>155|170=>176|169=>158|263=>184|264=>185|206=>165|240=>172|241=>186|276=>182|277=>194|n=>n,fun|9=>9|3=>3|4=>4|20=>20|0=>0|46=>138|109=>189|5=>5|72=>165|76=>161|51=>121|146=>201|53=>63|148=>203|70=>163|37=>104|75=>112|127=>192|164=>145|80=>118|n=>n,fun|n=>n⟩
theorem Tryz.aLs:Go.Proofs.Lays.n105 Tryz.prog Tryz.aCr:={
 mixed:=by kernel_rfl
 f99:=Zq.ft Tryz.func151
 f105:=Zq.ft Tryz.func157
 f165:=Zq.ft Tryz.func175
 f166:=Zq.ft Tryz.func155
 f169:=Zq.ft Tryz.func158
 f170:=Zq.ft Tryz.func176
 f206:=Zq.ft Tryz.func165
 f212:=Zq.ft Tryz.func174
 f240:=Zq.ft Tryz.func172
 f241:=Zq.ft Tryz.func186
 f263:=Zq.ft Tryz.func184
 f264:=Zq.ft Tryz.func185
 f276:=Zq.ft Tryz.func182
 f277:=Zq.ft Tryz.func194
 t0:=Tryz.underlying0
 a0:=Tryz.isAgg0
 z0:=Tryz.sizeOf0
 v0:=Tryz.zeroValue0
 t3:=Tryz.underlying3
 a3:=Tryz.isAgg3
 z3:=Tryz.sizeOf3
 v3:=Tryz.zeroValue3
 t4:=Tryz.underlying4
 a4:=Tryz.isAgg4
 z4:=Tryz.sizeOf4
 v4:=Tryz.zeroValue4
 t5:=Tryz.underlying5
 a5:=Tryz.isAgg5
 z5:=Tryz.sizeOf5
 v5:=Tryz.zeroValue5
 t9:=Tryz.underlying9
 a9:=Tryz.isAgg9
 z9:=Tryz.sizeOf9
 v9:=Tryz.zeroValue9
 t20:=Tryz.underlying20
 a20:=Tryz.isAgg20
 z20:=Tryz.sizeOf20
 v20:=Tryz.zeroValue20
 t37:=Tryz.underlying104
 a37:=Tryz.isAgg104
 z37:=Tryz.sizeOf104
 v37:=Tryz.zeroValue104
 t46:=Tryz.underlying138
 a46:=Tryz.isAgg138
 z46:=Tryz.sizeOf138
 v46:=Tryz.zeroValue138
 t51:=Tryz.underlying121
 a51:=Tryz.isAgg121
 z51:=Tryz.sizeOf121
 v51:=Tryz.zeroValue121
 t53:=Tryz.underlying63
 a53:=Tryz.isAgg63
 z53:=Tryz.sizeOf63
 v53:=Tryz.zeroValue63
 t70:=Tryz.underlying163
 a70:=Tryz.isAgg163
 z70:=Tryz.sizeOf163
 v70:=Tryz.zeroValue163
 t72:=Tryz.underlying165
 a72:=Tryz.isAgg165
 z72:=Tryz.sizeOf165
 v72:=Tryz.zeroValue165
 t75:=Tryz.underlying112
 a75:=Tryz.isAgg112
 z75:=Tryz.sizeOf112
 v75:=Tryz.zeroValue112
 t76:=Tryz.underlying161
 a76:=Tryz.isAgg161
 z76:=Tryz.sizeOf161
 v76:=Tryz.zeroValue161
 t109:=Tryz.underlying189
 a109:=Tryz.isAgg189
 z109:=Tryz.sizeOf189
 v109:=Tryz.zeroValue189
 t127:=Tryz.underlying192
 a127:=Tryz.isAgg192
 z127:=Tryz.sizeOf192
 v127:=Tryz.zeroValue192
 t146:=Tryz.underlying201
 a146:=Tryz.isAgg201
 z146:=Tryz.sizeOf201
 v146:=Tryz.zeroValue201
 t148:=Tryz.underlying203
 a148:=Tryz.isAgg203
 z148:=Tryz.sizeOf203
 v148:=Tryz.zeroValue203
 t164:=Tryz.underlying145
 a164:=Tryz.isAgg145
 z164:=Tryz.sizeOf145
 v164:=Tryz.zeroValue145}
theorem Tryz.aBX:Builder.Extra Tryz.prog Tryz.aCr:={
 sizeBuilder:=by kernel_rfl
 liesBuilder:=by kernel_rfl
 t5:=Tryz.underlying5
 a5:=Tryz.isAgg5
 z5:=Tryz.sizeOf5
 v5:=Tryz.zeroValue5
 infoByte:=by kernel_rfl
 cellsByte:=by kernel_rfl
 sizeByte:=by kernel_rfl
 neB5:=by decide}
open Go.RowKit Go.Lib in
theorem Tryz.strings_Repeat (s:ByteArray) (c:Nat) (w:World) (hc:c<=9223372036854775807) (hlen:s.size*c<=140737488355328):
 Calls Tryz.prog 157 #[.string s,.int .i64 c] w fun e w'=>e = .returned (.string ⟨(Lib.repeatL s.data.toList c).toArray⟩)/\Below w.heap.size w w':=Any.strings_Repeat Tryz.aLs Tryz.aBX s c w hc hlen
def Tryz.aCp:Go.Shelf.Ren:=⟨fun|167=>154|105=>157|212=>174|99=>151|165=>175|166=>155|170=>176|169=>158|263=>184|264=>185|206=>165|240=>172|241=>186|276=>182|277=>194|n=>n,fun|9=>9|3=>3|4=>4|20=>20|0=>0|46=>138|109=>189|5=>5|72=>165|76=>161|51=>121|146=>201|53=>63|148=>203|70=>163|37=>104|75=>112|127=>192|164=>145|80=>118|n=>n,fun|n=>n⟩
theorem Tryz.aLq:Go.Proofs.Lays.n167 Tryz.prog Tryz.aCp:={
 mixed:=by kernel_rfl
 f167:=Zq.ft Tryz.func154
 f240:=Zq.ft Tryz.func172
 f276:=Zq.ft Tryz.func182
 t0:=Tryz.underlying0
 a0:=Tryz.isAgg0
 z0:=Tryz.sizeOf0
 v0:=Tryz.zeroValue0
 t4:=Tryz.underlying4
 a4:=Tryz.isAgg4
 z4:=Tryz.sizeOf4
 v4:=Tryz.zeroValue4
 t5:=Tryz.underlying5
 a5:=Tryz.isAgg5
 z5:=Tryz.sizeOf5
 v5:=Tryz.zeroValue5
 t9:=Tryz.underlying9
 a9:=Tryz.isAgg9
 z9:=Tryz.sizeOf9
 v9:=Tryz.zeroValue9
 t20:=Tryz.underlying20
 a20:=Tryz.isAgg20
 z20:=Tryz.sizeOf20
 v20:=Tryz.zeroValue20
 t37:=Tryz.underlying104
 a37:=Tryz.isAgg104
 z37:=Tryz.sizeOf104
 v37:=Tryz.zeroValue104
 t70:=Tryz.underlying163
 a70:=Tryz.isAgg163
 z70:=Tryz.sizeOf163
 v70:=Tryz.zeroValue163
 t72:=Tryz.underlying165
 a72:=Tryz.isAgg165
 z72:=Tryz.sizeOf165
 v72:=Tryz.zeroValue165
 t75:=Tryz.underlying112
 a75:=Tryz.isAgg112
 z75:=Tryz.sizeOf112
 v75:=Tryz.zeroValue112
 t164:=Tryz.underlying145
 a164:=Tryz.isAgg145
 z164:=Tryz.sizeOf145
 v164:=Tryz.zeroValue145}
theorem Tryz.aBV:Builder.Extra Tryz.prog Tryz.aCp:={
 sizeBuilder:=by kernel_rfl
 liesBuilder:=by kernel_rfl
 t5:=Tryz.underlying5
 a5:=Tryz.isAgg5
 z5:=Tryz.sizeOf5
 v5:=Tryz.zeroValue5
 infoByte:=by kernel_rfl
 cellsByte:=by kernel_rfl
 sizeByte:=by kernel_rfl
 neB5:=by decide}
open Go.RowKit in
theorem Tryz.Builder_WriteByte_k (B b:Nat) (bs:List Value) (c:Int) (w:World) (h:Lib.IsBuilderF 165 5 B b bs w) (hlen:bs.length+1<=140737488355328) (hBw:B<=w.heap.size):
 Calls Tryz.prog 154 #[.pointer (some ⟨b,0,none⟩),.int .u8 c] w fun e w'=>e = .returned .nilIface/\(Lib.BuilderAtF 165 5 B b (.pointer (some ⟨b,0,none⟩)) (bs++[.int .u8 c]) w'/\Below B w w'/\Lib.OthersKept 5 (some b) w w'):=Any.Builder_WriteByte_k Tryz.aLq Tryz.aBV B b bs c w h hlen hBw
def Tryz.aCq:Go.Shelf.Ren:=⟨fun|105=>157|212=>174|99=>151|165=>175|166=>155|170=>176|169=>158|263=>184|264=>185|206=>165|240=>172|241=>186|276=>182|277=>194|n=>n,fun|9=>9|3=>3|4=>4|20=>20|0=>0|46=>138|109=>189|5=>5|72=>165|76=>161|51=>121|146=>201|53=>63|148=>203|70=>163|37=>104|75=>112|127=>192|164=>145|80=>118|n=>n,fun|n=>n⟩
theorem Tryz.aLr:Go.Proofs.Lays.n166 Tryz.prog Tryz.aCq:={
 mixed:=by kernel_rfl
 f166:=Zq.ft Tryz.func155
 f240:=Zq.ft Tryz.func172
 f276:=Zq.ft Tryz.func182
 t0:=Tryz.underlying0
 a0:=Tryz.isAgg0
 z0:=Tryz.sizeOf0
 v0:=Tryz.zeroValue0
 t3:=Tryz.underlying3
 a3:=Tryz.isAgg3
 z3:=Tryz.sizeOf3
 v3:=Tryz.zeroValue3
 t4:=Tryz.underlying4
 a4:=Tryz.isAgg4
 z4:=Tryz.sizeOf4
 v4:=Tryz.zeroValue4
 t9:=Tryz.underlying9
 a9:=Tryz.isAgg9
 z9:=Tryz.sizeOf9
 v9:=Tryz.zeroValue9
 t20:=Tryz.underlying20
 a20:=Tryz.isAgg20
 z20:=Tryz.sizeOf20
 v20:=Tryz.zeroValue20
 t37:=Tryz.underlying104
 a37:=Tryz.isAgg104
 z37:=Tryz.sizeOf104
 v37:=Tryz.zeroValue104
 t70:=Tryz.underlying163
 a70:=Tryz.isAgg163
 z70:=Tryz.sizeOf163
 v70:=Tryz.zeroValue163
 t72:=Tryz.underlying165
 a72:=Tryz.isAgg165
 z72:=Tryz.sizeOf165
 v72:=Tryz.zeroValue165
 t75:=Tryz.underlying112
 a75:=Tryz.isAgg112
 z75:=Tryz.sizeOf112
 v75:=Tryz.zeroValue112
 t164:=Tryz.underlying145
 a164:=Tryz.isAgg145
 z164:=Tryz.sizeOf145
 v164:=Tryz.zeroValue145}
theorem Tryz.aBW:Builder.Extra Tryz.prog Tryz.aCq:={
 sizeBuilder:=by kernel_rfl
 liesBuilder:=by kernel_rfl
 t5:=Tryz.underlying5
 a5:=Tryz.isAgg5
 z5:=Tryz.sizeOf5
 v5:=Tryz.zeroValue5
 infoByte:=by kernel_rfl
 cellsByte:=by kernel_rfl
 sizeByte:=by kernel_rfl
 neB5:=by decide}
open Go.RowKit in
theorem Tryz.Builder_WriteString_k (B b:Nat) (bs:List Value) (s:ByteArray) (w:World) (h:Lib.IsBuilderF 165 5 B b bs w) (hlen:bs.length+s.size<=140737488355328) (hBw:B<=w.heap.size):
 Calls Tryz.prog 155 #[.pointer (some ⟨b,0,none⟩),.string s] w fun e w'=>e = .returned (.tuple #[.int .i64 s.size,.nilIface])/\(Lib.BuilderAtF 165 5 B b (.pointer (some ⟨b,0,none⟩)) (bs++Lib.strCells s) w'/\Below B w w'/\Lib.OthersKept 5 (some b) w w'):=Any.Builder_WriteString_k Tryz.aLr Tryz.aBW B b bs s w h hlen hBw
end Go.Proofs
namespace Go.Proofs.YtjieekkkaekclaaGreatDoor
open Go Go.RowKit Go.Shelf Go.Pw.PrintWords
attribute [local go_sem] Oper.semAt_some
theorem aAn (s:ByteArray) (w:World):Calls Tryz.prog 152 #[.string s] w fun e w'=>e = .returned (.func (.func 169) #[] #[.pointer (some ⟨w.heap.size,0,none⟩)])/\w'=w.alloc (.cells #[.string s] 9):=by
 have hmf:∀(fn:Fn) (first cap:Array Value) (w:World),(Instr.makeFunc fn first cap).run Tryz.prog w = .ok (.func fn first cap) w:=fun _ _ _ _=>rfl
 go_enter Tryz.func152,Tryz.ntmps152
 go_wp2
 go_ret
 exact⟨rfl,rfl⟩
theorem dS.putObj {W:World} {s:Int} {A:Option Addr} {k c:Nat} {n:Int} (h:dS W s A k c n) {D:Nat} {ds:Option (List Deferred)} (hD:W.heap[D]?=some (.deferred ds)) (o:Obj):dS (W.putObj D o) s A k c n:=by
 refine⟨h.sign,h.len,h.cap,Kd.lS (d:=0) ⟨h.reads.1,h.reads.2.1,fun h0=>?_⟩⟩;obtain⟨ad,e,_⟩:=Kd.dF h.reads 0 (by omega) (by omega);refine⟨ad,e,fun j hj=>?_⟩;obtain⟨ad',e',hc⟩:=Kd.dF h.reads j (by omega) (by omega);obtain rfl:ad=ad':=by rw[e]at e';simpa using e'
 simp only[Int.toNat_natCast,rd]at hc;rw[<-hc];refine World.cell?_of_block (World.putObj_heap_other (fun e=>?_));unfold World.cell? at hc;rw[e,hD]at hc;simp at hc
def aDL (w:World) (pre:List ByteArray) (W:World):Prop:=
 (∃v,Boxed W (w.heap.size+1) 69 v/\W.ownsRow w.heap.size 121 1 v pre.length ((oV pre).map (Value.int .u32)))/\(∃u,Boxed W (w.heap.size+1+1) 9 u)/\
  W.heap[w.heap.size]?=some (.cells #[.int .i64 0,.slice none 0 0] 71 (0,0))/\Below w.heap.size w W
theorem rD {W W2:World} (h:Below W.heap.size W W2):W.grownBy W2 none:=⟨h.os,h.tape,h.output,h.size,fun k hk _=>h.block k hk⟩
theorem aAf {w:World} {pre:List ByteArray} {W W2:World} (h:aDL w pre W) (hb:Below W.heap.size W W2):aDL w pre W2:=by obtain⟨⟨v,hv,hrow⟩,⟨u,hu⟩,hR,hB⟩:=h;exact⟨⟨v,(hb.block _ hv.lt).trans hv,hrow.kept (rD hb) (Classical.em _)⟩,⟨u,(hb.block _ hu.lt).trans hu⟩,(hb.block _ (Array.getElem?_eq_some_iff.1 hR).1).trans hR,hB.trans (hb.mono hB.size)⟩
theorem aEe (w:World) {B:Nat} (hB:w.heap.size<=B):OwnFrom B (aDL w):=by
 rintro pre X Y row ⟨⟨v,hv,hrow⟩,⟨u,hu⟩,hR,hBe⟩ hg hr;have hnc:∀r,row=some r->∃o:Obj,X.heap[r]?=some o/\o.isCells=false:=fun r e=>(hr r e).2
 obtain⟨v',hv',hr',_⟩:=holdsRow_own w.heap.size (w.heap.size+1) 69 121 1 (fun pre:List ByteArray=>pre.length) (fun pre=>(oV pre).map (Value.int .u32)) (fun _ _=>True) pre X Y row ⟨v,hv,hrow,trivial⟩ hg hnc;exact⟨⟨v',hv',hr'⟩,⟨u,(grownBy_keeps_cells hg hnc hu rfl).trans hu⟩,(grownBy_keeps_cells hg hnc hR rfl).trans hR,hBe.grown hg hBe.size (fun k e=>Nat.le_trans hB (hr k e).1)⟩
theorem aD6 {w:World} {pre:List ByteArray} {W:World} (x:Value) (h:aDL w pre W):aDL w pre (W.setCell ⟨w.heap.size+1+1,0,none⟩ x):=by obtain⟨⟨v,hv,hrow⟩,⟨u,hu⟩,hR,hB⟩:=h;exact⟨⟨v,hv.other (by omega) x,hrow.kept (grownBy_setCell' W _ x) (.inr (hu.not_row (by decide) hrow).symm)⟩,⟨x,hu.set x⟩,(Below.heap_setCell W _ x _ (by simp;omega)).trans hR,hB.setCell (by simp;omega) x⟩
theorem aI1 (s:ByteArray) (w:World) (hs:s.size<=100000) (h0:s.size≠0) (hd:∀c ∈ s.data.toList,Mw.dig c=true):
 Calls Tryz.prog 126 #[.string s] w fun e w'=>∃s2 A2 k2 c2,e = .returned (.agg #[.int .i64 s2,.slice A2 k2 c2])/\dS w' s2 A2 k2 c2 (Mw.kM s.data.toList:Int)/\Below w.heap.size w w':=by
 obtain⟨c1,c2,c3,c4,c5⟩:=aDD s.size s rfl hd
 have hp:Lib.hasPrefix s.data.toList (ByteArray.mk #[45]).data.toList=false:=by
  (have hne:s.data.toList≠[]:=fun h=>h0 (by rw[<-oL,h];rfl));generalize s.data.toList=l at hd hne;cases l with
  | nil=>exact absurd rfl hne
  | cons b r=>have hb:=hd b (by simp);(have hb2:(45 == b)=false:=by apply beq_false_of_ne;intro e;subst e;exact absurd hb (by decide));simp[Lib.hasPrefix,List.isPrefixOf,hb2]
 obtain⟨i0,hi,hz0,hz1,hz2⟩:=info_parts xX;refine(callsIn_wide (n:=3)).1 ?_;refine callsIn_of_wp_marks Tryz.func126 rfl trivial ?_ rfl;simp only[Tryz.ntmps126,List.size_toArray,List.length_cons,List.length_nil,Nat.reduceAdd,Nat.reduceSub,Array.replicate_succ,Array.replicate_zero,List.push_toArray,List.append_toArray,List.nil_append,List.cons_append]
 gi_wp2_with (first|(refine⟨trivial,?_⟩;gi_at_call 151;refine(callsIn_wide.2 (Tryz.strings_HasPrefix _ _ _)).mono ?_;rw[hp];rintro e w' ⟨rfl,rfl⟩)|(refine⟨trivial,?_⟩;gi_at_call 152;refine(callsIn_wide.2 (aAn _ _)).mono ?_;rintro e w' ⟨rfl,rfl⟩))
 refine yK rfl (by omega) (gf:=169) (lb:=#[.pointer (some ⟨w.heap.size+1+1,0,none⟩)]) rfl trivial (enters_of Tryz.func169 (by kernel_rfl) rfl)
  (aDB Fence.wide 2 trivial rfl (by omega) (w.heap.size+1+1) s (by omega)) (fun _=>rfl) (by simp) (by simp[go_sem]) (by simp[go_sem]) (aDL w) ?own ?cell ?drew ?start
  (fun x=>{tmps:=#[.string s,undef,.pointer (some ⟨w.heap.size,0,none⟩),.int .i64 1,.pointer (some ⟨w.heap.size+1,0,none⟩),.string x,undef,undef,.string s,.bool false,undef,undef,.string s,.func (.func 169) #[] #[.pointer (some ⟨w.heap.size+1+1,0,none⟩)],.string x,undef,undef,undef,undef,undef,undef,undef,undef,undef,undef,undef,undef,undef],defers:=[]}) ?assign ?body ?done
 case own=>exact aEe w (by simp;omega)
 case cell=>exact fun pre W v h=>aD6 v h
 case drew=>exact fun pre W h=>aAf h (bN (Below.refl _ _))
 case start=>refine⟨⟨.slice none 0 0,?_,World.ownsRow_nil _ _ _ _⟩,⟨.string s,?_⟩,?_,((((Below.refl _ w).alloc (Nat.le_refl _) _).alloc (by simp) _).alloc (by simp;omega) _)⟩;(·have h:=(Boxed.new (w.alloc (.cells #[.int .i64 0,.slice none 0 0] 71)) 69 (.slice none 0 0)).alloc (.cells #[.string s] 9);rwa[World.size_alloc]at h);(·have h:=Boxed.new ((w.alloc (.cells #[.int .i64 0,.slice none 0 0] 71)).alloc (.cells #[.slice none 0 0] 69)) 9 (.string s);rwa[World.size_alloc,World.size_alloc]at h);·exact((Below.heap_alloc _ _ _ (by simp;omega)).trans ((Below.heap_alloc _ _ _ (by simp)).trans (World.alloc_heap_new w _)))
 case assign=>
  intro l x W K hK
  gi_wp2
  exact hK
 case body=>
  rintro l pre x W hpx hI hlt;obtain⟨g1,g2,g3⟩:=c1 x (hpx.subset (by simp));(have hlp:pre.length+1<=s.size:=by have h:=hpx.length_le;rw[List.length_append,List.length_singleton]at h;omega);have ha:=aEB _ g3 g2;have hdl:=Mw.yQ _ g3;(have hsl:x.data.toList.length<=9:=by rw[oL];exact g1);have hpw:10^x.data.toList.length<=10^9:=Nat.pow_le_pow_right (by omega) hsl;(have h109:(10:Nat)^9=1000000000:=by decide);obtain⟨d,hdd⟩:∃d:Int,((Mw.kM x.data.toList:Nat):Int)=d:=⟨_,rfl⟩;(have hd0:0<=d:=by omega);(have hd1:d<1000000000:=by omega);rw[hdd]at ha;have HDD:=Lib.hid hdd;clear hdl hsl hpw h109 hdd hd
  gi_wp2_with (first|(refine⟨trivial,?_⟩;gi_at_call 153;refine(CallsIn.inRound l (callsIn_wide.2 (Tryz.strconv_Atoi x _ (by omega) ha _))).mono ?_;rintro e w2 ⟨rfl,ht⟩;refine Hid.out ?_))
  (have hb2:Below W.heap.size W w2:=by obtain⟨t,rfl⟩:=ht;exact Lib.bytesWorld_below _ _ _);clear ht;have hI2:=aAf hI hb2;have hcs:w2.cell? ⟨w.heap.size+1+1,0,none⟩=W.cell? ⟨w.heap.size+1+1,0,none⟩/\w2.frozen? ⟨w.heap.size+1+1,0,none⟩=W.frozen? ⟨w.heap.size+1+1,0,none⟩:=⟨hb2.cell (p:=⟨w.heap.size+1+1,0,none⟩) hlt,hb2.frozen (p:=⟨w.heap.size+1+1,0,none⟩) hlt⟩;have HCS:=Lib.hid hcs;have HB2:=Lib.hid hb2;obtain⟨⟨v,hv,hrow⟩,⟨u,hu⟩,hR,hB⟩:=hI2;have hc:=hv.cell;have hle2:w.heap.size<=w2.heap.size:=hB.size;have HV:=Lib.hid hv;have HU:=Lib.hid hu;have HROW:=Lib.hid hrow;have HRB:=Lib.hid hR;have HBW:=Lib.hid hB;clear hI hb2 hv hrow hR hB hcs hu;refine Lib.hid ?_
  gi_wp2_with (gi_at_builtin;refine wpListIn_append_own _ rfl _ _ 69 rfl w.heap.size 121 i0 (.int .u32 0) 1 4 Tryz.underlying69 hi hz0 hz1 hz2 rfl (by decide) _ _ _ rfl (HROW.out.alloc _) ⟨w2.heap.size,0,none⟩ 1 1 [.int .u32 d] rfl rfl (cell_one_new _ _ _) (by simp[Value.oneCell']) (by unfold maxLen;omega) (by omega) (by simp;omega) ?_;intro v' w3 hown' hgrow _;obtain⟨g',cap',rfl⟩:=ownsRow_succ hown';obtain⟨hv1,hv2,hr2,hk2,hb3⟩:=HV.out.appended (by decide) HROW.out hle2 (by omega) hown' hgrow;have hc1:=hv1.cell;have hf1:=hv1.frozen)
  have hu3:Boxed w3 (w.heap.size+1+1) 9 u:=(HU.out.alloc _).kept hgrow (HU.out.not_row (by decide) HROW.out);have hu4:=hu3.other (show w.heap.size+1+1≠w.heap.size+1 by omega) (.slice (some ⟨g',0,none⟩) (pre.length+1) cap');(have hRn:some w.heap.size≠v.ownBlock:=by rcases HROW.out.2 with⟨rfl,_⟩|⟨g,cap,cur,rfl,_,hgb,_⟩;(·simp[Value.ownBlock]);·intro e';(obtain rfl:w.heap.size=g:=by simpa [Value.ownBlock]using e');have h:=HRB.out.symm.trans hgb;simp at h);have hR3:=(hgrow.block w.heap.size (by simp;omega) (fun e=>hRn e)).trans ((Below.heap_alloc w2 _ _ (Array.getElem?_eq_some_iff.1 HRB.out).1).trans HRB.out);refine⟨(KeepsOthers.of_grownBy (rD HB2.out) (fun j o e=>by cases e)).trans hk2,⟨?_,?_⟩,⟨_,hv2,?_⟩,⟨u,hu4⟩,(Below.heap_setCell _ _ _ _ (by simp)).trans hR3,HBW.out.trans hb3⟩;(·rw[hu4.cell,<-HU.out.cell];exact HCS.out.1);(·rw[hu4.frozen,<-HU.out.frozen];exact HCS.out.2);·(have e1:(oV (pre++[x])).map (Value.int .u32)=(oV pre).map (Value.int .u32)++[.int .u32 d]:=by simp[oV,HDD.out]);rw[e1,List.length_append,List.length_singleton];exact hr2
 case done=>
  rintro D W hD hI hK;obtain⟨⟨v,hv,hrow⟩,-,hR,hB⟩:=hI;obtain⟨m,hm⟩:∃m,(kH s).length=m+1:=⟨(kH s).length-1,by have:=c4 h0;omega⟩;rw[hm]at hrow;obtain⟨g',cap',rfl⟩:=ownsRow_succ hrow;(have hll:(oV (kH s)).length=m+1:=by simp[oV,hm]);obtain⟨ll,hL⟩:∃ll,oV (kH s)=ll:=⟨_,rfl⟩;rw[hL]at hll hrow c2 c3;rw[<-hll]at hrow hv;obtain⟨-,hc1,hc2⟩:=Kd.aJ (Kd.aBT (h1:=fun _=>rfl) (enc:=.int .u32) hrow (fun k _=>trivial) (ok:=fun _=>True));have hsz:=hB.size;have hDW:D<W.heap.size:=(Array.getElem?_eq_some_iff.1 hK).1;(have hD2:w.heap.size+3<=D:=by simp at hD;omega);(have hlc:(kH s).length<=100000:=by omega);have HC:=Lib.hid hc2;have HI:=Lib.hid c2;have HVL:=Lib.hid c3;have HK:=Lib.hid hK;have HRB:=Lib.hid hR;have HBW:=Lib.hid hB;have hcv:=hv.cell;(have hpos:0<ll.length:=by omega);(have hlen:ll.length<=1000000:=by omega);clear hc2 c2 c3 hK hR hB hrow hv hD c1 c4 hd hll hL hm
  gi_wp2_with (first|(refine⟨trivial,?_⟩;gi_at_call 129;refine(callsIn_wide.2 (rC 1 (some ⟨g',0,none⟩) ll cap' (Mw.kM s.data.toList) W HC.out hpos hc1 hlen HI.out HVL.out (.inl rfl))).mono ?_;rintro e w4 ⟨s4,A4,k4,c4,rfl,hN4,hb4⟩;refine Hid.out ?_))
  have hK4:=(hb4.block D hDW).trans HK.out;have hR4:=(hb4.block w.heap.size (by omega)).trans HRB.out;(have q0:w4.cell? ⟨w.heap.size,0,none⟩=some (.int .i64 0):=by simp[World.cell?,hR4]);(have q1:w4.cell? ⟨w.heap.size,1,none⟩=some (.slice none 0 0):=by simp[World.cell?,hR4]);(have f0:w4.frozen? ⟨w.heap.size,0,none⟩=false:=by simp[World.frozen?,hR4]);(have f1:w4.frozen? ⟨w.heap.size,1,none⟩=false:=by simp[World.frozen?,hR4]);rw[Int.one_mul]at hN4;obtain⟨HN1,hA,hBc⟩:=lY hN4 q0 q1;have HB4:=Lib.hid (HBW.out.trans (hb4.mono hsz));have hK5:((w4.setCell ⟨w.heap.size,0,none⟩ (.int .i64 s4)).setCell ⟨w.heap.size,1,none⟩ (.slice A4 k4 c4)).heap[D]?=some (.deferred (some [])):=(Below.heap_setCell _ _ _ _ (by simp;omega)).trans ((Below.heap_setCell _ _ _ _ (by simp;omega)).trans hK4);have HK5:=Lib.hid hK5;clear hN4 hb4 hK4 hK5;refine Lib.hid ?_
  gi_wp2
  have z0:=(vO (W:=(w4.setCell ⟨w.heap.size,0,none⟩ (.int .i64 s4)).setCell ⟨w.heap.size,1,none⟩ (.slice A4 k4 c4)) (l:=D) (b:=w.heap.size) (o:=0) (x:=.deferred none) (by omega)).1;have z1:=(vO (W:=(w4.setCell ⟨w.heap.size,0,none⟩ (.int .i64 s4)).setCell ⟨w.heap.size,1,none⟩ (.slice A4 k4 c4)) (l:=D) (b:=w.heap.size) (o:=1) (x:=.deferred none) (by omega)).1;rw[World.cell?_setCell_other _ _ _ _ (by simp),hA]at z0;rw[hBc]at z1;refine⟨by simp,.inl ⟨_,_,rfl,run_takeDeferred HK5.out,?_⟩⟩;exact⟨.agg #[.int .i64 s4,.slice A4 k4 c4],by simp[results,Tryz.results126,go_sem,z0,z1],s4,A4,k4,c4,rfl,HN1.out.putObj HK5.out _,((HB4.out.setCell (by simp) _).setCell (by simp) _).trans (belowK_b (w:=w) (Nat.le_refl _) _ D _ _ (by omega) HK5.out rfl rfl)⟩
theorem aGJ (s t:ByteArray) (w:World) (ht:s.extract 1 s.size=t) (hst:s.data.toList=45::t.data.toList) (hs:t.size<=100000) (h0:t.size≠0) (hd:∀c ∈ t.data.toList,Mw.dig c=true):
 Calls Tryz.prog 126 #[.string s] w fun e w'=>∃s2 A2 k2 c2,e = .returned (.agg #[.int .i64 s2,.slice A2 k2 c2])/\dS w' s2 A2 k2 c2 (-(Mw.kM t.data.toList:Int))/\Below w.heap.size w w':=by
 obtain⟨c1,c2,c3,c4,c5⟩:=aDD t.size t rfl hd;have hp:Lib.hasPrefix s.data.toList (ByteArray.mk #[45]).data.toList=true:=by rw[hst];rfl
 have hs1:s.size=t.size+1:=by rw[<-oL s,hst,List.length_cons,oL]
 have hs2:(1:Int)<=(s.size:Int):=by omega
 have hs3:s.size<=100001:=by omega
 clear hs1;obtain⟨i0,hi,hz0,hz1,hz2⟩:=info_parts xX;refine(callsIn_wide (n:=3)).1 ?_;refine callsIn_of_wp_marks Tryz.func126 rfl trivial ?_ rfl;simp only[Tryz.ntmps126,List.size_toArray,List.length_cons,List.length_nil,Nat.reduceAdd,Nat.reduceSub,Array.replicate_succ,Array.replicate_zero,List.push_toArray,List.append_toArray,List.nil_append,List.cons_append]
 gi_wp2_with (first|(refine⟨trivial,?_⟩;gi_at_call 151;refine(callsIn_wide.2 (Tryz.strings_HasPrefix _ _ _)).mono ?_;rw[hp];rintro e w' ⟨rfl,rfl⟩)|(refine⟨trivial,?_⟩;gi_at_call 152;refine(callsIn_wide.2 (aAn _ _)).mono ?_;rintro e w' ⟨rfl,rfl⟩))
 gi_region
 gi_wp2_with (first|(refine⟨trivial,?_⟩;gi_at_call 151;refine(callsIn_wide.2 (Tryz.strings_HasPrefix _ _ _)).mono ?_;rw[hp];rintro e w' ⟨rfl,rfl⟩)|(refine⟨trivial,?_⟩;gi_at_call 152;refine(callsIn_wide.2 (aAn _ _)).mono ?_;rintro e w' ⟨rfl,rfl⟩))
 refine yK rfl (by omega) (gf:=169) (lb:=#[.pointer (some ⟨w.heap.size+1+1,0,none⟩)]) rfl trivial (enters_of Tryz.func169 (by kernel_rfl) rfl)
  (aDB Fence.wide 2 trivial rfl (by omega) (w.heap.size+1+1) t (by omega)) (fun _=>rfl) (by simp) (by simp[go_sem]) (by simp[go_sem]) (aDL w) ?own ?cell ?drew ?start
  (fun x=>{tmps:=#[.string t,undef,.pointer (some ⟨w.heap.size,0,none⟩),.int .i64 (-1),.pointer (some ⟨w.heap.size+1,0,none⟩),.string x,undef,undef,.string s,.bool true,.string s,.string t,.string t,.func (.func 169) #[] #[.pointer (some ⟨w.heap.size+1+1,0,none⟩)],.string x,undef,undef,undef,undef,undef,undef,undef,undef,undef,undef,undef,undef,undef],defers:=[]}) ?assign ?body ?done
 case own=>exact aEe w (by simp;omega)
 case cell=>exact fun pre W v h=>aD6 v h
 case drew=>exact fun pre W h=>aAf h (bN (Below.refl _ _))
 case start=>refine⟨⟨.slice none 0 0,?_,World.ownsRow_nil _ _ _ _⟩,⟨.string t,?_⟩,?_,bN ((((Below.refl _ w).alloc (Nat.le_refl _) _).alloc (by simp) _).alloc (by simp;omega) _)⟩;(·have h:=(Boxed.new (w.alloc (.cells #[.int .i64 0,.slice none 0 0] 71)) 69 (.slice none 0 0)).alloc (.cells #[.string t] 9);rwa[World.size_alloc]at h);(·have h:=Boxed.new ((w.alloc (.cells #[.int .i64 0,.slice none 0 0] 71)).alloc (.cells #[.slice none 0 0] 69)) 9 (.string t);rwa[World.size_alloc,World.size_alloc]at h);·exact((Below.heap_alloc _ _ _ (by simp;omega)).trans ((Below.heap_alloc _ _ _ (by simp)).trans (World.alloc_heap_new w _)))
 case assign=>
  intro l x W K hK
  gi_wp2
  exact hK
 case body=>
  rintro l pre x W hpx hI hlt;obtain⟨g1,g2,g3⟩:=c1 x (hpx.subset (by simp));(have hlp:pre.length+1<=t.size:=by have h:=hpx.length_le;rw[List.length_append,List.length_singleton]at h;omega);have ha:=aEB _ g3 g2;have hdl:=Mw.yQ _ g3;(have hsl:x.data.toList.length<=9:=by rw[oL];exact g1);have hpw:10^x.data.toList.length<=10^9:=Nat.pow_le_pow_right (by omega) hsl;(have h109:(10:Nat)^9=1000000000:=by decide);obtain⟨d,hdd⟩:∃d:Int,((Mw.kM x.data.toList:Nat):Int)=d:=⟨_,rfl⟩;(have hd0:0<=d:=by omega);(have hd1:d<1000000000:=by omega);rw[hdd]at ha;have HDD:=Lib.hid hdd;clear hdl hsl hpw h109 hdd hd
  gi_wp2_with (first|(refine⟨trivial,?_⟩;gi_at_call 153;refine(CallsIn.inRound l (callsIn_wide.2 (Tryz.strconv_Atoi x _ (by omega) ha _))).mono ?_;rintro e w2 ⟨rfl,ht⟩;refine Hid.out ?_))
  (have hb2:Below W.heap.size W w2:=by obtain⟨t,rfl⟩:=ht;exact Lib.bytesWorld_below _ _ _);clear ht;have hI2:=aAf hI hb2;have hcs:w2.cell? ⟨w.heap.size+1+1,0,none⟩=W.cell? ⟨w.heap.size+1+1,0,none⟩/\w2.frozen? ⟨w.heap.size+1+1,0,none⟩=W.frozen? ⟨w.heap.size+1+1,0,none⟩:=⟨hb2.cell (p:=⟨w.heap.size+1+1,0,none⟩) hlt,hb2.frozen (p:=⟨w.heap.size+1+1,0,none⟩) hlt⟩;have HCS:=Lib.hid hcs;have HB2:=Lib.hid hb2;obtain⟨⟨v,hv,hrow⟩,⟨u,hu⟩,hR,hB⟩:=hI2;have hc:=hv.cell;have hle2:w.heap.size<=w2.heap.size:=hB.size;have HV:=Lib.hid hv;have HU:=Lib.hid hu;have HROW:=Lib.hid hrow;have HRB:=Lib.hid hR;have HBW:=Lib.hid hB;clear hI hb2 hv hrow hR hB hcs hu;refine Lib.hid ?_
  gi_wp2_with (gi_at_builtin;refine wpListIn_append_own _ rfl _ _ 69 rfl w.heap.size 121 i0 (.int .u32 0) 1 4 Tryz.underlying69 hi hz0 hz1 hz2 rfl (by decide) _ _ _ rfl (HROW.out.alloc _) ⟨w2.heap.size,0,none⟩ 1 1 [.int .u32 d] rfl rfl (cell_one_new _ _ _) (by simp[Value.oneCell']) (by unfold maxLen;omega) (by omega) (by simp;omega) ?_;intro v' w3 hown' hgrow _;obtain⟨g',cap',rfl⟩:=ownsRow_succ hown';obtain⟨hv1,hv2,hr2,hk2,hb3⟩:=HV.out.appended (by decide) HROW.out hle2 (by omega) hown' hgrow;have hc1:=hv1.cell;have hf1:=hv1.frozen)
  have hu3:Boxed w3 (w.heap.size+1+1) 9 u:=(HU.out.alloc _).kept hgrow (HU.out.not_row (by decide) HROW.out);have hu4:=hu3.other (show w.heap.size+1+1≠w.heap.size+1 by omega) (.slice (some ⟨g',0,none⟩) (pre.length+1) cap');(have hRn:some w.heap.size≠v.ownBlock:=by rcases HROW.out.2 with⟨rfl,_⟩|⟨g,cap,cur,rfl,_,hgb,_⟩;(·simp[Value.ownBlock]);·intro e';(obtain rfl:w.heap.size=g:=by simpa [Value.ownBlock]using e');have h:=HRB.out.symm.trans hgb;simp at h);have hR3:=(hgrow.block w.heap.size (by simp;omega) (fun e=>hRn e)).trans ((Below.heap_alloc w2 _ _ (Array.getElem?_eq_some_iff.1 HRB.out).1).trans HRB.out);refine⟨(KeepsOthers.of_grownBy (rD HB2.out) (fun j o e=>by cases e)).trans hk2,⟨?_,?_⟩,⟨_,hv2,?_⟩,⟨u,hu4⟩,(Below.heap_setCell _ _ _ _ (by simp)).trans hR3,HBW.out.trans hb3⟩;(·rw[hu4.cell,<-HU.out.cell];exact HCS.out.1);(·rw[hu4.frozen,<-HU.out.frozen];exact HCS.out.2);·(have e1:(oV (pre++[x])).map (Value.int .u32)=(oV pre).map (Value.int .u32)++[.int .u32 d]:=by simp[oV,HDD.out]);rw[e1,List.length_append,List.length_singleton];exact hr2
 case done=>
  rintro D W hD hI hK;obtain⟨⟨v,hv,hrow⟩,-,hR,hB⟩:=hI;obtain⟨m,hm⟩:∃m,(kH t).length=m+1:=⟨(kH t).length-1,by have:=c4 h0;omega⟩;rw[hm]at hrow;obtain⟨g',cap',rfl⟩:=ownsRow_succ hrow;(have hll:(oV (kH t)).length=m+1:=by simp[oV,hm]);obtain⟨ll,hL⟩:∃ll,oV (kH t)=ll:=⟨_,rfl⟩;rw[hL]at hll hrow c2 c3;rw[<-hll]at hrow hv;obtain⟨-,hc1,hc2⟩:=Kd.aJ (Kd.aBT (h1:=fun _=>rfl) (enc:=.int .u32) hrow (fun k _=>trivial) (ok:=fun _=>True));have hsz:=hB.size;have hDW:D<W.heap.size:=(Array.getElem?_eq_some_iff.1 hK).1;(have hD2:w.heap.size+3<=D:=by simp at hD;omega);(have hlc:(kH t).length<=100000:=by omega);have HC:=Lib.hid hc2;have HI:=Lib.hid c2;have HVL:=Lib.hid c3;have HK:=Lib.hid hK;have HRB:=Lib.hid hR;have HBW:=Lib.hid hB;have hcv:=hv.cell;(have hpos:0<ll.length:=by omega);(have hlen:ll.length<=1000000:=by omega);clear hc2 c2 c3 hK hR hB hrow hv hD c1 c4 hd hll hL hm
  gi_wp2_with (first|(refine⟨trivial,?_⟩;gi_at_call 129;refine(callsIn_wide.2 (rC (-1) (some ⟨g',0,none⟩) ll cap' (Mw.kM t.data.toList) W HC.out hpos hc1 hlen HI.out HVL.out (.inr (.inl rfl)))).mono ?_;rintro e w4 ⟨s4,A4,k4,c4,rfl,hN4,hb4⟩;refine Hid.out ?_))
  have hK4:=(hb4.block D hDW).trans HK.out;have hR4:=(hb4.block w.heap.size (by omega)).trans HRB.out;(have q0:w4.cell? ⟨w.heap.size,0,none⟩=some (.int .i64 0):=by simp[World.cell?,hR4]);(have q1:w4.cell? ⟨w.heap.size,1,none⟩=some (.slice none 0 0):=by simp[World.cell?,hR4]);(have f0:w4.frozen? ⟨w.heap.size,0,none⟩=false:=by simp[World.frozen?,hR4]);(have f1:w4.frozen? ⟨w.heap.size,1,none⟩=false:=by simp[World.frozen?,hR4]);rw[Int.neg_one_mul]at hN4;obtain⟨HN1,hA,hBc⟩:=lY hN4 q0 q1;have HB4:=Lib.hid (HBW.out.trans (hb4.mono hsz));have hK5:((w4.setCell ⟨w.heap.size,0,none⟩ (.int .i64 s4)).setCell ⟨w.heap.size,1,none⟩ (.slice A4 k4 c4)).heap[D]?=some (.deferred (some [])):=(Below.heap_setCell _ _ _ _ (by simp;omega)).trans ((Below.heap_setCell _ _ _ _ (by simp;omega)).trans hK4);have HK5:=Lib.hid hK5;clear hN4 hb4 hK4 hK5;refine Lib.hid ?_
  gi_wp2
  have z0:=(vO (W:=(w4.setCell ⟨w.heap.size,0,none⟩ (.int .i64 s4)).setCell ⟨w.heap.size,1,none⟩ (.slice A4 k4 c4)) (l:=D) (b:=w.heap.size) (o:=0) (x:=.deferred none) (by omega)).1;have z1:=(vO (W:=(w4.setCell ⟨w.heap.size,0,none⟩ (.int .i64 s4)).setCell ⟨w.heap.size,1,none⟩ (.slice A4 k4 c4)) (l:=D) (b:=w.heap.size) (o:=1) (x:=.deferred none) (by omega)).1;rw[World.cell?_setCell_other _ _ _ _ (by simp),hA]at z0;rw[hBc]at z1;refine⟨by simp,.inl ⟨_,_,rfl,run_takeDeferred HK5.out,?_⟩⟩;exact⟨.agg #[.int .i64 s4,.slice A4 k4 c4],by simp[results,Tryz.results126,go_sem,z0,z1],s4,A4,k4,c4,rfl,HN1.out.putObj HK5.out _,((HB4.out.setCell (by simp) _).setCell (by simp) _).trans (belowK_b (w:=w) (Nat.le_refl _) _ D _ _ (by omega) HK5.out rfl rfl)⟩
theorem aAX {l:List UInt8} (h:Mw.uM l=true):l≠[]/\∀c ∈ l,Mw.dig c=true:=by simp only[Mw.uM,Bool.and_eq_true,Bool.not_eq_true',List.all_eq_true]at h;exact⟨fun e=>by rw[e]at h;simp at h,h.1.2⟩
theorem aJu (s:ByteArray) (w:World) (hs:s.size<=100000) (hok:Mw.okf s.data.toList=true):
 Calls Tryz.prog 126 #[.string s] w fun e w'=>∃s2 A2 k2 c2,e = .returned (.agg #[.int .i64 s2,.slice A2 k2 c2])/\dS w' s2 A2 k2 c2 (Mw.lI s.data.toList)/\Below w.heap.size w w':=by
 simp only[Mw.okf,Bool.and_eq_true]at hok;obtain⟨hne,hd⟩:=aAX hok.1;by_cases hm:Mw.isM s.data.toList=true
 ·obtain⟨l,hl⟩:∃l,s.data.toList=45::l:=by
   generalize s.data.toList=l at *;cases l with
   | nil=>simp[Mw.isM]at hm
   | cons b r=>simp[Mw.isM]at hm;exact⟨r,by rw[hm]⟩
  (have hu:Mw.unm s.data.toList=l:=by rw[hl];rfl);rw[hu]at hne hd;(have ht:(s.extract 1 s.size).data.toList=l:=by rw[ext_list,List.take_of_length_le (by rw[oL];exact Nat.le_refl _),hl];rfl);(have hsz:(s.extract 1 s.size).size=l.length:=by rw[<-oL,ht]);(have hsl:s.size=l.length+1:=by rw[<-oL,hl];rfl);(have hlp:l.length≠0:=fun h=>hne (List.length_eq_zero_iff.mp h));have h:=aGJ s (s.extract 1 s.size) w rfl (by rw[ht,hl]) (by omega) (by omega) (by rw[ht];exact hd);rw[ht]at h;rw[show Mw.lI s.data.toList = -(Mw.kM l:Int) by rw[Mw.lI,if_pos hm,hu]];exact h
 ·(have hm':Mw.isM s.data.toList=false:=by simpa using hm);have hu:=Mw.yG hm';rw[hu]at hne hd;rw[show Mw.lI s.data.toList=(Mw.kM s.data.toList:Int) by rw[Mw.lI,hm',hu];rfl];exact aI1 s w hs (fun h=>hne (List.length_eq_zero_iff.mp (by rw[oL];exact h))) hd
end Go.Proofs.YtjieekkkaekclaaGreatDoor
namespace Go.Proofs.YtjieekkkaekclaaGreatDoor
open Go
theorem aDA (n:Nat):Lib.decDigits n=Mw.gU n:=by
 induction n using Nat.strongRecOn with
 | _ n ih=>by_cases h:n<10;(·rw[Lib.decDigits,dif_pos h,Mw.jY h];rfl);·rw[Lib.decDigits,dif_neg h,Mw.rW (by omega),ih _ (by omega)];rfl
theorem aIu (n:Int) (h:0<=n):Lib.itoa n=Mw.gU n.toNat:=by rw[Lib.itoa,if_neg (by omega),aDA]
theorem aDU (c:Nat):Lib.repeatL [48] c=List.replicate c 48:=by
 induction c with
 | zero=>rfl
 | succ c ih=>rw[Lib.repeatL,ih,List.replicate_succ];rfl
def aDb (d:Nat):List UInt8:=List.replicate (9-(Mw.gU d).length) 48++Mw.gU d
theorem aH7 (c:Nat):Mw.kM (List.replicate c 48)=0:=by
 induction c with
 | zero=>rfl
 | succ c ih=>rw[List.replicate_succ,Mw.vN,ih];simp
theorem aJH {d:Nat} (h:d<1000000000):(aDb d).length=9:=by have:=(Mw.iZ d 9 (by omega)).mpr (by omega);simp only[aDb,List.length_append,List.length_replicate];omega
theorem aJG (d:Nat):Mw.kM (aDb d)=d:=by rw[aDb,Mw.yA,aH7,Mw.vM];omega
theorem aIb (d:Nat):∀c ∈ aDb d,Mw.dig c=true:=by
 intro c hc;simp only[aDb,List.mem_append,List.mem_replicate]at hc;rcases hc with⟨_,rfl⟩|hc;·decide
 ·exact Mw.yV d c hc
theorem aKg (x d:Nat) (hx:0<x) (hd:d<1000000000):Mw.gU (x*1000000000+d)=Mw.gU x++aDb d:=by
 have hv:Mw.kM (Mw.gU x++aDb d)=x*1000000000+d:=by rw[Mw.yA,Mw.vM,aJH hd,aJG]
 have hc:Mw.uM (Mw.gU x++aDb d)=true:=by obtain⟨c,l,e,h1,h2⟩:=Mw.aCf x hx;simp only[Mw.uM,Bool.and_eq_true,Bool.not_eq_true',List.all_eq_true];refine⟨⟨by rw[e];rfl,fun y hy=>?_⟩,?_⟩;(·rcases List.mem_append.mp hy with hy|hy;(·exact Mw.yV x y hy);·exact aIb d y hy);·rw[Bool.or_eq_true];right;rw[e];simp[h2]
 rw[<-hv];exact Mw.yU _ hc
theorem aHU {l:List Int} (hi:Mw.inB 1000000000 l) {j:Nat} (hj:j+1<l.length) (hp:0<Mw.lv 1000000000 (l.drop (j+1))):
 Mw.gU (Mw.lv 1000000000 (l.drop j)).toNat=Mw.gU (Mw.lv 1000000000 (l.drop (j+1))).toNat++aDb (l.getD j 0).toNat/\0<Mw.lv 1000000000 (l.drop j):=by
 have hd:=Mw.bW (by omega) hi j;rw[pV l j (by omega),Mw.mH];generalize Mw.lv 1000000000 (l.drop (j+1))=x at *;generalize l.getD j 0=d at *;refine⟨?_,by omega⟩;rw[<-aKg x.toNat d.toNat (by omega) (by omega)];congr 1
 omega
theorem aFy {l:List Int} (hi:Mw.inB 1000000000 l) {j:Nat} (hj:j+1=l.length):Mw.lv 1000000000 (l.drop j)=l.getD j 0:=by rw[pV l j (by omega),List.drop_of_length_le (by omega),Mw.mH,Mw.oK];omega
end Go.Proofs.YtjieekkkaekclaaGreatDoor
