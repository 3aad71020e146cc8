/- Contracts of functions of Go's library, laid onto this program with the kit's tools. -/
import Derived.Shelf.Strings.OnBuilder
import Derived.Shelf.Small.Bits
import Derived.Shelf.Small.Wraps
import Derived.Shelf.Utf8.RuneCount
import Derived.Shelf.Strconv.Itoa4
import Derived.Shelf.Strconv.ErrVarParseInt
import Derived.Shelf.Strings.Shaped
import Derived.Shelf.Strings.SplitShaped
import Derived.Shelf.Strings.Explode
import Derived.Shelf.Bits.Mul64
import Derived.Shelf.Unicode.DecodeAny
import Derived.Shelf.Strings.BuilderCap
import Derived.Shelf.Slices.Clone
import Derived.Shelf.SlicesG.Turned
import Derived.Shelf.SlicesG.Equal
import Derived.Shelf.SlicesG.Clone
import Derived.Shelf.SlicesG.SearchI
import Derived.Shelf.SlicesG.Cells
import Derived.Shelf.SlicesE.Clone
import Derived.Shelf.SlicesG.Cmp
import Derived.Shelf.SortM.Plain
import Derived.Shelf.SortM.SortNone
import Derived.Test.YtkcggmmjnpdgnaaGreatDoorProg
set_option linter.all false
namespace Go.Proofs
open Go.Shelf Tryz
theorem zT {α:Type} {x:Option α} {a b:α} (h:x=some a) (e:a=b:=by kernel_rfl):x=some b:=h.trans (congrArg some e)
def Tryz.lays156_ren:Go.Shelf.Ren:=⟨fun|156=>184|165=>202|166=>203|169=>204|240=>216|241=>217|276=>227|277=>228|n=>n,fun|31=>24|9=>9|3=>3|4=>4|0=>0|20=>20|72=>221|76=>223|70=>219|37=>22|75=>201|127=>236|164=>250|5=>5|80=>225|n=>n,fun|n=>n⟩
theorem Tryz.lays156:Go.Proofs.Lays.n156 prog lays156_ren:={
 mixed:=by kernel_rfl
 f156:=zT func184
 f165:=zT func202
 f166:=zT func203
 f169:=zT func204
 f240:=zT func216
 f241:=zT func217
 f276:=zT func227
 f277:=zT func228
 t0:=underlying0
 a0:=isAgg0
 z0:=sizeOf0
 v0:=zeroValue0
 t3:=underlying3
 a3:=isAgg3
 z3:=sizeOf3
 v3:=zeroValue3
 t4:=underlying4
 a4:=isAgg4
 z4:=sizeOf4
 v4:=zeroValue4
 t9:=underlying9
 a9:=isAgg9
 z9:=sizeOf9
 v9:=zeroValue9
 t20:=underlying20
 a20:=isAgg20
 z20:=sizeOf20
 v20:=zeroValue20
 t31:=underlying24
 a31:=isAgg24
 z31:=sizeOf24
 v31:=zeroValue24
 t37:=underlying22
 a37:=isAgg22
 z37:=sizeOf22
 v37:=zeroValue22
 t70:=underlying219
 a70:=isAgg219
 z70:=sizeOf219
 v70:=zeroValue219
 t72:=underlying221
 a72:=isAgg221
 z72:=sizeOf221
 v72:=zeroValue221
 t75:=underlying201
 a75:=isAgg201
 z75:=sizeOf201
 v75:=zeroValue201
 t76:=underlying223
 a76:=isAgg223
 z76:=sizeOf223
 v76:=zeroValue223
 t127:=underlying236
 a127:=isAgg236
 z127:=sizeOf236
 v127:=zeroValue236
 t164:=underlying250
 a164:=isAgg250
 z164:=sizeOf250
 v164:=zeroValue250 }
theorem Tryz.Builder_Extra_156:Builder.Extra prog lays156_ren:={
 sizeBuilder:=by kernel_rfl
 liesBuilder:=by kernel_rfl
 t5:=underlying5
 a5:=isAgg5
 z5:=sizeOf5
 v5:=zeroValue5
 infoByte:=by kernel_rfl
 cellsByte:=by kernel_rfl
 sizeByte:=by kernel_rfl
 neB5:=by decide }
open Go.RowKit in
theorem Tryz.strings_Join_none (a:Option Addr) (c:Nat) (sep:ByteArray) (w:World):
  Calls prog 184 #[.slice a 0 c,.string sep] w fun e w'=>e=.returned (.string ⟨#[]⟩)/\w'=w:=Any.strings_Join_none lays156 Builder_Extra_156 a c sep w
open Go.RowKit in
theorem Tryz.strings_Join (bk o c:Nat) (xs:List ByteArray) (sep:ByteArray) (w:World) (hcells:∀ (j:Nat) x,xs[j]?=some x->w.cell? ⟨bk,o+j,none⟩=some (.string x)) (hbk:bk < w.heap.size) (hN:xs.length<=140737488355328) (hcap:xs.length<=c) (hlen:(Lib.join (xs.map (·.data.toList)) sep.data.toList).length<=140737488355328):
  Calls prog 184 #[.slice (some ⟨bk,o,none⟩) xs.length c,.string sep] w fun e w'=>e=.returned (.string ⟨(Lib.join (xs.map (·.data.toList)) sep.data.toList).toArray⟩)/\Below w.heap.size w w':=Any.strings_Join lays156 Builder_Extra_156 bk o c xs sep w hcells hbk hN hcap hlen
def Tryz.laysM173_ren:Go.Shelf.Ren:=⟨fun|173=>198|246=>214|283=>223|284=>224|285=>225|286=>226|129=>170|317=>230|318=>231|319=>232|320=>233|337=>234|338=>235|n=>n,fun|2=>2|3=>3|9=>9|4=>4|171=>242|0=>0|53=>54|37=>22|5=>5|173=>244|212=>257|51=>163|20=>20|213=>258|46=>138|232=>260|233=>261|n=>n,fun|17=>5|18=>6|19=>7|n=>n⟩
theorem Tryz.laysM173:Go.Proofs.LaysM.n173 prog laysM173_ren:={
 mixed:=by kernel_rfl
 f129:=zT func170
 f173:=zT func198
 f246:=zT func214
 f283:=zT func223
 f284:=zT func224
 f285:=zT func225
 f286:=zT func226
 f317:=zT func230
 f318:=zT func231
 f319:=zT func232
 f320:=zT func233
 f337:=zT func234
 f338:=zT func235
 t0:=underlying0
 a0:=isAgg0
 z0:=sizeOf0
 v0:=zeroValue0
 t2:=underlying2
 a2:=isAgg2
 z2:=sizeOf2
 v2:=zeroValue2
 t3:=underlying3
 a3:=isAgg3
 z3:=sizeOf3
 v3:=zeroValue3
 t4:=underlying4
 a4:=isAgg4
 z4:=sizeOf4
 v4:=zeroValue4
 t5:=underlying5
 a5:=isAgg5
 z5:=sizeOf5
 v5:=zeroValue5
 t9:=underlying9
 a9:=isAgg9
 z9:=sizeOf9
 v9:=zeroValue9
 t20:=underlying20
 a20:=isAgg20
 z20:=sizeOf20
 v20:=zeroValue20
 t37:=underlying22
 a37:=isAgg22
 z37:=sizeOf22
 v37:=zeroValue22
 t46:=underlying138
 a46:=isAgg138
 z46:=sizeOf138
 v46:=zeroValue138
 t51:=underlying163
 a51:=isAgg163
 z51:=sizeOf163
 v51:=zeroValue163
 t53:=underlying54
 a53:=isAgg54
 z53:=sizeOf54
 v53:=zeroValue54
 t171:=underlying242
 a171:=isAgg242
 z171:=sizeOf242
 v171:=zeroValue242
 t173:=underlying244
 a173:=isAgg244
 z173:=sizeOf244
 v173:=zeroValue244
 t212:=underlying257
 a212:=isAgg257
 z212:=sizeOf257
 v212:=zeroValue257
 t213:=underlying258
 a213:=isAgg258
 z213:=sizeOf258
 t232:=underlying260
 a232:=isAgg260
 z232:=sizeOf260
 v232:=zeroValue260
 t233:=underlying261
 a233:=isAgg261
 z233:=sizeOf261
 v233:=zeroValue261
 g17:=by kernel_rfl
 g18:=by kernel_rfl
 g19:=by kernel_rfl
 i0:=by kernel_rfl
 i2:=by kernel_rfl
 i3:=by kernel_rfl
 i4:=by kernel_rfl
 i5:=by kernel_rfl
 i9:=by kernel_rfl
 i20:=by kernel_rfl
 i37:=by kernel_rfl
 i46:=by kernel_rfl
 i51:=by kernel_rfl
 i53:=by kernel_rfl
 i171:=by kernel_rfl
 i173:=by kernel_rfl
 i212:=by kernel_rfl
 i232:=by kernel_rfl
 i233:=by kernel_rfl
 m17:=by kernel_rfl
 m18:=by kernel_rfl
 m19:=by kernel_rfl }
open Go.RowKit Go.Sort Go.Lib in
theorem Tryz.strconv_FormatInt_10 (n:Int) (h0:-9223372036854775808<=n) (h1:n<=9223372036854775807) (w:World) (htab:Lib.TabIs prog w "internal/strconv.uint64pow10" .u64 Lib.pow10Tab):
  Calls prog 198 #[.int .i64 n,.int .i64 10] w fun e w'=>e=.returned (.string ⟨(Lib.itoa n).toArray⟩)/\∃ k os,w'=grow (w.drewN k) os:=Any.strconv_FormatInt_10 laysM173 n h0 h1 w htab
def Tryz.laysC174_ren:Go.Shelf.Ren:=⟨fun|174=>177|247=>196|245=>197|287=>209|279=>210|280=>211|281=>212|282=>213|321=>218|322=>219|316=>220|171=>222|205=>221|243=>229|246=>214|283=>223|284=>224|285=>225|286=>226|129=>170|317=>230|318=>231|319=>232|320=>233|337=>234|338=>235|n=>n,fun|9=>9|3=>3|2=>2|75=>201|85=>202|4=>4|167=>230|5=>5|53=>54|175=>231|46=>138|168=>233|37=>22|0=>0|210=>239|21=>21|127=>236|145=>255|143=>253|171=>242|173=>244|212=>257|51=>163|20=>20|213=>258|232=>260|233=>261|80=>225|n=>n,fun|15=>1|16=>2|17=>5|18=>6|19=>7|n=>n⟩
theorem Tryz.laysC174:Go.Proofs.LaysC.n174 prog laysC174_ren:={
 mixed:=by kernel_rfl
 f129:=zT func170
 f171:=zT func222
 f174:=zT func177
 f205:=zT func221
 f243:=zT func229
 f245:=zT func197
 f246:=zT func214
 f247:=zT func196
 f279:=zT func210
 f280:=zT func211
 f281:=zT func212
 f282:=zT func213
 f283:=zT func223
 f284:=zT func224
 f285:=zT func225
 f286:=zT func226
 f287:=zT func209
 f316:=zT func220
 f317:=zT func230
 f318:=zT func231
 f319:=zT func232
 f320:=zT func233
 f321:=zT func218
 f322:=zT func219
 f337:=zT func234
 f338:=zT func235
 t0:=underlying0
 a0:=isAgg0
 z0:=sizeOf0
 v0:=zeroValue0
 t2:=underlying2
 a2:=isAgg2
 z2:=sizeOf2
 v2:=zeroValue2
 t3:=underlying3
 a3:=isAgg3
 z3:=sizeOf3
 v3:=zeroValue3
 t4:=underlying4
 a4:=isAgg4
 z4:=sizeOf4
 v4:=zeroValue4
 t5:=underlying5
 a5:=isAgg5
 z5:=sizeOf5
 v5:=zeroValue5
 t9:=underlying9
 a9:=isAgg9
 z9:=sizeOf9
 v9:=zeroValue9
 t20:=underlying20
 a20:=isAgg20
 z20:=sizeOf20
 v20:=zeroValue20
 t21:=underlying21
 a21:=isAgg21
 z21:=sizeOf21
 v21:=zeroValue21
 t37:=underlying22
 a37:=isAgg22
 z37:=sizeOf22
 v37:=zeroValue22
 t46:=underlying138
 a46:=isAgg138
 z46:=sizeOf138
 v46:=zeroValue138
 t51:=underlying163
 a51:=isAgg163
 z51:=sizeOf163
 v51:=zeroValue163
 t53:=underlying54
 a53:=isAgg54
 z53:=sizeOf54
 v53:=zeroValue54
 t75:=underlying201
 a75:=isAgg201
 z75:=sizeOf201
 v75:=zeroValue201
 t85:=underlying202
 a85:=isAgg202
 z85:=sizeOf202
 v85:=zeroValue202
 t127:=underlying236
 a127:=isAgg236
 z127:=sizeOf236
 v127:=zeroValue236
 t143:=underlying253
 a143:=isAgg253
 z143:=sizeOf253
 v143:=zeroValue253
 t145:=underlying255
 a145:=isAgg255
 z145:=sizeOf255
 v145:=zeroValue255
 t167:=underlying230
 a167:=isAgg230
 z167:=sizeOf230
 v167:=zeroValue230
 t168:=underlying233
 a168:=isAgg233
 z168:=sizeOf233
 v168:=zeroValue233
 t171:=underlying242
 a171:=isAgg242
 z171:=sizeOf242
 v171:=zeroValue242
 t173:=underlying244
 a173:=isAgg244
 z173:=sizeOf244
 v173:=zeroValue244
 t175:=underlying231
 a175:=isAgg231
 z175:=sizeOf231
 v175:=zeroValue231
 t210:=underlying239
 a210:=isAgg239
 z210:=sizeOf239
 v210:=zeroValue239
 t212:=underlying257
 a212:=isAgg257
 z212:=sizeOf257
 v212:=zeroValue257
 t213:=underlying258
 a213:=isAgg258
 z213:=sizeOf258
 t232:=underlying260
 a232:=isAgg260
 z232:=sizeOf260
 v232:=zeroValue260
 t233:=underlying261
 a233:=isAgg261
 z233:=sizeOf261
 v233:=zeroValue261
 g15:=by kernel_rfl
 g16:=by kernel_rfl
 g17:=by kernel_rfl
 g18:=by kernel_rfl
 g19:=by kernel_rfl
 t80:=underlying225
 a80:=isAgg225
 z80:=sizeOf225
 v80:=zeroValue225
 i0:=by kernel_rfl
 i2:=by kernel_rfl
 i3:=by kernel_rfl
 i4:=by kernel_rfl
 i5:=by kernel_rfl
 i9:=by kernel_rfl
 i20:=by kernel_rfl
 i21:=by kernel_rfl
 i37:=by kernel_rfl
 i46:=by kernel_rfl
 i51:=by kernel_rfl
 i53:=by kernel_rfl
 i75:=by kernel_rfl
 i80:=by kernel_rfl
 i85:=by kernel_rfl
 i127:=by kernel_rfl
 i143:=by kernel_rfl
 i145:=by kernel_rfl
 i167:=by kernel_rfl
 i168:=by kernel_rfl
 i171:=by kernel_rfl
 i173:=by kernel_rfl
 i175:=by kernel_rfl
 i210:=by kernel_rfl
 i212:=by kernel_rfl
 i232:=by kernel_rfl
 i233:=by kernel_rfl
 m15:=by kernel_rfl
 m16:=by kernel_rfl
 m17:=by kernel_rfl
 m18:=by kernel_rfl
 m19:=by kernel_rfl
 c0:=by kernel_rfl
 c2:=by kernel_rfl
 c3:=by kernel_rfl
 c4:=by kernel_rfl
 c5:=by kernel_rfl
 c9:=by kernel_rfl
 c20:=by kernel_rfl
 c21:=by kernel_rfl
 c37:=by kernel_rfl
 c46:=by kernel_rfl
 c51:=by kernel_rfl
 c53:=by kernel_rfl
 c75:=by kernel_rfl
 c80:=by kernel_rfl
 c85:=by kernel_rfl
 c127:=by kernel_rfl
 c143:=by kernel_rfl
 c145:=by kernel_rfl
 c167:=by kernel_rfl
 c168:=by kernel_rfl
 c171:=by kernel_rfl
 c173:=by kernel_rfl
 c175:=by kernel_rfl
 c210:=by kernel_rfl
 c212:=by kernel_rfl
 c213:=by kernel_rfl
 c232:=by kernel_rfl
 c233:=by kernel_rfl }
open Go.RowKit in
theorem Tryz.strconv_ParseInt_10_at64_ok (s:ByteArray) (hmax:s.size<=9223372036854775806) (v:Int) (h:Lib.parseIntB 64 s.data.toList=.ok v) (w:World):
  Calls prog 177 #[.string s,.int .i64 10,.int .i64 64] w fun e w'=>e=.returned (.tuple #[.int .i64 v,.nilIface])/\(w'=w\/∃ t,w'=Lib.bytesWorld w 5 t):=Any.strconv_ParseInt_10_at64_ok laysC174 s hmax v h w
open Go.RowKit in
theorem Tryz.strconv_ParseInt_10_at64_syntax (s:ByteArray) (hlim:s.size<=281474976710656) (h:Lib.parseIntB 64 s.data.toList=.«syntax») (ev:Value) (w:World) (hv:w.cell? ⟨1,0,none⟩=some ev) (hev:ev=.nilIface\/∃ te pe,ev=.iface te pe):
  Calls prog 177 #[.string s,.int .i64 10,.int .i64 64] w fun e w'=>∃ N,e=.returned (.tuple #[.int .i64 (0),.iface 233 (.pointer (some ⟨N,0,none⟩))])/\w.heap.size<=N/\w'.heap[N]?=some (.cells #[.string ⟨#[80,97,114,115,101,73,110,116]⟩,.string s,ev] 239 (0,0))/\Below w.heap.size w w':=Any.strconv_ParseInt_10_at64_syntax laysC174 s hlim h ev w hv hev
open Go.RowKit in
theorem Tryz.strconv_ParseInt_10_at64_range (s:ByteArray) (hlim:s.size<=281474976710656) (h:Lib.parseIntB 64 s.data.toList=.range) (ev:Value) (w:World) (hv:w.cell? ⟨2,0,none⟩=some ev) (hev:ev=.nilIface\/∃ te pe,ev=.iface te pe):
  Calls prog 177 #[.string s,.int .i64 10,.int .i64 64] w fun e w'=>∃ N,e=.returned (.tuple #[.int .i64 (Lib.intSat 64 s.data.toList),.iface 233 (.pointer (some ⟨N,0,none⟩))])/\w.heap.size<=N/\w'.heap[N]?=some (.cells #[.string ⟨#[80,97,114,115,101,73,110,116]⟩,.string s,ev] 239 (0,0))/\Below w.heap.size w w':=Any.strconv_ParseInt_10_at64_range laysC174 s hlim h ev w hv hev
def Tryz.lays145_ren:Go.Shelf.Ren:=⟨fun|145=>134|220=>154|219=>175|217=>191|225=>192|224=>193|267=>194|266=>206|314=>207|n=>n,fun|9=>9|4=>4|59=>169|3=>3|5=>5|46=>138|146=>164|51=>163|n=>n,fun|1=>0|n=>n⟩
theorem Tryz.lays145:Go.Proofs.Lays.n145 prog lays145_ren:={
 mixed:=by kernel_rfl
 f145:=zT func134
 f217:=zT func191
 f219:=zT func175
 f220:=zT func154
 f224:=zT func193
 f225:=zT func192
 f266:=zT func206
 f267:=zT func194
 f314:=zT func207
 t3:=underlying3
 a3:=isAgg3
 z3:=sizeOf3
 v3:=zeroValue3
 t4:=underlying4
 a4:=isAgg4
 z4:=sizeOf4
 v4:=zeroValue4
 t5:=underlying5
 a5:=isAgg5
 z5:=sizeOf5
 v5:=zeroValue5
 t9:=underlying9
 a9:=isAgg9
 z9:=sizeOf9
 v9:=zeroValue9
 t46:=underlying138
 a46:=isAgg138
 z46:=sizeOf138
 v46:=zeroValue138
 t51:=underlying163
 a51:=isAgg163
 z51:=sizeOf163
 v51:=zeroValue163
 t59:=underlying169
 a59:=isAgg169
 z59:=sizeOf169
 v59:=zeroValue169
 t146:=underlying164
 a146:=isAgg164
 z146:=sizeOf164
 v146:=zeroValue164
 g1:=by kernel_rfl }
open Go.RowKit Go.Lib in
theorem Tryz.strings_Cut (s sep:ByteArray) (m:Int) (w:World) (hs:s.size < 4294967281) (hm:w.cell? ⟨0,0,none⟩=some (.int .i64 m)):
  Calls prog 134 #[.string s,.string sep] w fun e w'=>e=.returned (.tuple #[.string ⟨(Lib.cut s.data.toList sep.data.toList).1.toArray⟩,.string ⟨(Lib.cut s.data.toList sep.data.toList).2.1.toArray⟩,.bool (Lib.cut s.data.toList sep.data.toList).2.2])/\∃ n,w'=w.drewN n:=Any.strings_Cut lays145 s sep m w hs hm
def Tryz.lays101_ren:Go.Shelf.Ren:=⟨fun|101=>176|208=>195|206=>208|n=>n,fun|9=>9|4=>4|3=>3|n=>n,fun|n=>n⟩
theorem Tryz.lays101:Go.Proofs.Lays.n101 prog lays101_ren:={
 mixed:=by kernel_rfl
 f101:=zT func176
 f206:=zT func208
 f208:=zT func195
 t3:=underlying3
 a3:=isAgg3
 z3:=sizeOf3
 v3:=zeroValue3
 t4:=underlying4
 a4:=isAgg4
 z4:=sizeOf4
 v4:=zeroValue4
 t9:=underlying9
 a9:=isAgg9
 z9:=sizeOf9
 v9:=zeroValue9 }
open Go.RowKit Go.Lib in
theorem Tryz.strings_TrimPrefix (s p:ByteArray) (w:World):
  Calls prog 176 #[.string s,.string p] w fun e w'=>e=.returned (.string ⟨(Lib.trimPrefix s.data.toList p.data.toList).toArray⟩)/\w'=w:=Any.strings_TrimPrefix lays101 s p w
def Tryz.lays146_ren:Go.Shelf.Ren:=⟨fun|146=>136|221=>156|268=>179|138=>180|143=>181|195=>199|197=>200|218=>201|219=>175|260=>215|217=>191|225=>192|224=>193|267=>194|266=>206|314=>207|n=>n,fun|9=>9|31=>24|3=>3|4=>4|0=>0|105=>217|21=>21|5=>5|46=>138|119=>246|139=>249|138=>248|146=>164|51=>163|n=>n,fun|1=>0|3=>3|4=>4|n=>n⟩
theorem Tryz.lays146:Go.Proofs.Lays.n146 prog lays146_ren:={
 mixed:=by kernel_rfl
 f138:=zT func180
 f143:=zT func181
 f146:=zT func136
 f195:=zT func199
 f197:=zT func200
 f217:=zT func191
 f218:=zT func201
 f219:=zT func175
 f221:=zT func156
 f224:=zT func193
 f225:=zT func192
 f260:=zT func215
 f266:=zT func206
 f267:=zT func194
 f268:=zT func179
 f314:=zT func207
 t0:=underlying0
 a0:=isAgg0
 z0:=sizeOf0
 v0:=zeroValue0
 t3:=underlying3
 a3:=isAgg3
 z3:=sizeOf3
 v3:=zeroValue3
 t4:=underlying4
 a4:=isAgg4
 z4:=sizeOf4
 v4:=zeroValue4
 t5:=underlying5
 a5:=isAgg5
 z5:=sizeOf5
 v5:=zeroValue5
 t9:=underlying9
 a9:=isAgg9
 z9:=sizeOf9
 v9:=zeroValue9
 t21:=underlying21
 a21:=isAgg21
 z21:=sizeOf21
 v21:=zeroValue21
 t31:=underlying24
 a31:=isAgg24
 z31:=sizeOf24
 v31:=zeroValue24
 t46:=underlying138
 a46:=isAgg138
 z46:=sizeOf138
 v46:=zeroValue138
 t51:=underlying163
 a51:=isAgg163
 z51:=sizeOf163
 v51:=zeroValue163
 t105:=underlying217
 a105:=isAgg217
 z105:=sizeOf217
 v105:=zeroValue217
 t119:=underlying246
 a119:=isAgg246
 z119:=sizeOf246
 t138:=underlying248
 a138:=isAgg248
 z138:=sizeOf248
 v138:=zeroValue248
 t139:=underlying249
 a139:=isAgg249
 z139:=sizeOf249
 v139:=zeroValue249
 t146:=underlying164
 a146:=isAgg164
 z146:=sizeOf164
 v146:=zeroValue164
 g1:=by kernel_rfl
 g3:=by kernel_rfl
 g4:=by kernel_rfl }
open Go.RowKit Go.Lib in
theorem Tryz.strings_Split (s sep:ByteArray) (m:Int) (w:World) (hs:s.size < 4294967281) (hm:w.cell? ⟨0,0,none⟩=some (.int .i64 m)) (h1:1<=sep.size):
  Calls prog 136 #[.string s,.string sep] w fun e w'=>
   e=.returned (.slice (some ⟨w.heap.size,0,none⟩) (Lib.countB s sep+1) (Lib.countB s sep+1))/\w'=w.alloc (.cells ((Lib.splitB sep 0 (Lib.countB s sep) s).map Value.string).toArray 9):=Any.strings_Split lays146 (by kernel_rfl) s sep m w hs hm h1
def Tryz.lays212_ren:Go.Shelf.Ren:=⟨fun|212=>104|263=>130|264=>131|n=>n,fun|46=>138|51=>163|146=>164|53=>54|148=>166|n=>n,fun|n=>n⟩
theorem Tryz.lays212:Go.Proofs.Lays.n212 prog lays212_ren:={
 mixed:=by kernel_rfl
 f212:=zT func104
 f263:=zT func130
 f264:=zT func131
 t46:=underlying138
 a46:=isAgg138
 z46:=sizeOf138
 v46:=zeroValue138
 t51:=underlying163
 a51:=isAgg163
 z51:=sizeOf163
 v51:=zeroValue163
 t53:=underlying54
 a53:=isAgg54
 z53:=sizeOf54
 v53:=zeroValue54
 t146:=underlying164
 a146:=isAgg164
 z146:=sizeOf164
 v146:=zeroValue164
 t148:=underlying166
 a148:=isAgg166
 z148:=sizeOf166
 v148:=zeroValue166 }
open Go.RowKit Go.Lib in
theorem Tryz.bits_Mul (x y:Nat) (hx:x < 18446744073709551616) (hy:y < 18446744073709551616) (w:World):
  Calls prog 104 #[.int .u64 x,.int .u64 y] w fun e w'=>e=.returned (.tuple #[.int .u64 ((x * y / 18446744073709551616:Nat):Int),.int .u64 ((x * y % 18446744073709551616:Nat):Int)])/\w'=w:=Any.bits_Mul lays212 x y hx hy w
def Tryz.laysSlM5_f123_ren:Go.Shelf.Ren:=⟨fun|5=>123|8=>145|7=>144|19=>169|20=>170|10=>160|11=>161|12=>162|13=>163|14=>164|15=>165|16=>166|17=>167|18=>168|30=>185|31=>186|32=>187|33=>188|34=>189|35=>139|40=>205|n=>n,fun|23=>63|25=>2|3=>3|32=>138|22=>63|0=>0|44=>163|46=>54|4=>4|36=>189|35=>188|41=>193|5=>5|9=>9|53=>207|57=>211|63=>226|64=>227|n=>n,fun|n=>n⟩
theorem Tryz.laysSlM5_f123:Go.Proofs.SlLaysM.n5 prog laysSlM5_f123_ren:={
 mixed:=by kernel_rfl
 f5:=⟨f123.name,by decide,zT func123⟩
 f7:=⟨f144.name,by decide,zT func144⟩
 f8:=zT func145
 f10:=⟨f160.name,by decide,zT func160⟩
 f11:=⟨f161.name,by decide,zT func161⟩
 f12:=⟨f162.name,by decide,zT func162⟩
 f13:=⟨f163.name,by decide,zT func163⟩
 f14:=⟨f164.name,by decide,zT func164⟩
 f15:=⟨f165.name,by decide,zT func165⟩
 f16:=⟨f166.name,by decide,zT func166⟩
 f17:=⟨f167.name,by decide,zT func167⟩
 f18:=⟨f168.name,by decide,zT func168⟩
 f19:=zT func169
 f20:=zT func170
 f30:=⟨f185.name,by decide,zT func185⟩
 f31:=zT func186
 f32:=zT func187
 f33:=⟨f188.name,by decide,zT func188⟩
 f34:=⟨f189.name,by decide,zT func189⟩
 f35:=⟨f139.name,by decide,zT func139⟩
 f40:=⟨f205.name,by decide,zT func205⟩
 t0:=underlying0
 a0:=isAgg0
 z0:=sizeOf0
 v0:=zeroValue0
 t3:=underlying3
 a3:=isAgg3
 z3:=sizeOf3
 v3:=zeroValue3
 t4:=underlying4
 a4:=isAgg4
 z4:=sizeOf4
 v4:=zeroValue4
 t5:=underlying5
 a5:=isAgg5
 z5:=sizeOf5
 v5:=zeroValue5
 t9:=underlying9
 a9:=isAgg9
 z9:=sizeOf9
 v9:=zeroValue9
 t22:=underlying63
 a22:=isAgg63
 z22:=sizeOf63
 v22:=zeroValue63
 t23:=underlying63
 a23:=isAgg63
 z23:=sizeOf63
 v23:=zeroValue63
 t25:=underlying2
 a25:=isAgg2
 z25:=sizeOf2
 v25:=zeroValue2
 t32:=underlying138
 a32:=isAgg138
 z32:=sizeOf138
 v32:=zeroValue138
 t35:=underlying188
 a35:=isAgg188
 z35:=sizeOf188
 v35:=zeroValue188
 t36:=underlying189
 a36:=isAgg189
 z36:=sizeOf189
 v36:=zeroValue189
 t41:=underlying193
 a41:=isAgg193
 z41:=sizeOf193
 v41:=zeroValue193
 t44:=underlying163
 a44:=isAgg163
 z44:=sizeOf163
 v44:=zeroValue163
 t46:=underlying54
 a46:=isAgg54
 z46:=sizeOf54
 v46:=zeroValue54
 t53:=underlying207
 a53:=isAgg207
 z53:=sizeOf207
 v53:=zeroValue207
 t57:=underlying211
 a57:=isAgg211
 z57:=sizeOf211
 v57:=zeroValue211
 t63:=underlying226
 a63:=isAgg226
 z63:=sizeOf226
 v63:=zeroValue226
 t64:=underlying227
 a64:=isAgg227
 z64:=sizeOf227
 v64:=zeroValue227 }
open Go.Sort Go.RowKit in
theorem Tryz.slices_Sort_int (blk off cap:Nat) (zs:List Int) (w:World) (hH:Holds (Value.int .i64) w blk off zs.toArray) (hblk:blk < w.heap.size) (hsz:zs.length < 4611686018427387904):
  Calls prog 123 #[.slice (some ⟨blk,off,none⟩) zs.length cap] w fun e w'=>
   e=.returned (.tuple #[])/\∃ n os,w'=grow (putRow (Value.int .i64) (Sort.ahead w n) blk off (zs.mergeSort fun x y=>decide (x<=y)).toArray) os:=AnyM.slices_Sort_int laysSlM5_f123 blk off cap zs w hH hblk hsz
open Go.RowKit Go.Sort in
theorem Tryz.slices_Sort_int_none (p:Option Addr) (cap:Nat) (w:World):
  Calls prog 123 #[.slice p 0 cap] w fun e w'=>e=.returned (.tuple #[])/\w'=w:=AnyM.slices_Sort_int_none laysSlM5_f123 p cap w
end Go.Proofs
