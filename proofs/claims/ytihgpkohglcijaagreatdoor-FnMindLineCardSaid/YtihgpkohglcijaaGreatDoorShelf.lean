import Derived.Shelf.Strings.Cut
import Derived.Shelf.Strings.OnBuilder
import Derived.Shelf.Strconv.Itoa3
import Derived.Shelf.Slices.CompactI
import Derived.Sort.OwnSortedInts
import Derived.Shelf.Sort.Plain
import Derived.Shelf.Slices.In.SortNone
import Derived.Test.YtihgpkohglcijaaGreatDoorProg
namespace Go.Proofs
open Go.Shelf
def Tryz.lays156_ren:Go.Shelf.Ren:=⟨fun|156=>130|165=>150|166=>151|169=>152|240=>165|241=>166|276=>185|277=>186|n=>n,fun|31=>37|9=>9|3=>3|4=>4|0=>0|20=>20|72=>136|76=>140|70=>134|37=>22|75=>139|127=>147|164=>165|5=>5|80=>142|n=>n,fun|n=>n⟩
theorem Tryz.lays156:Go.Proofs.Lays.n156 Tryz.prog Tryz.lays156_ren:={
  mixed:=by kernel_rfl
  f156:=Tryz.func130.trans (congrArg some (by kernel_rfl))
  f165:=Tryz.func150.trans (congrArg some (by kernel_rfl))
  f166:=Tryz.func151.trans (congrArg some (by kernel_rfl))
  f169:=Tryz.func152.trans (congrArg some (by kernel_rfl))
  f240:=Tryz.func165.trans (congrArg some (by kernel_rfl))
  f241:=Tryz.func166.trans (congrArg some (by kernel_rfl))
  f276:=Tryz.func185.trans (congrArg some (by kernel_rfl))
  f277:=Tryz.func186.trans (congrArg some (by kernel_rfl))
  t0:=Tryz.underlying0
  a0:=Tryz.isAgg0
  z0:=Tryz.sizeOf0
  v0:=Tryz.zeroValue0
  t3:=Tryz.underlying3
  a3:=Tryz.isAgg3
  z3:=Tryz.sizeOf3
  v3:=Tryz.zeroValue3
  t4:=Tryz.underlying4
  a4:=Tryz.isAgg4
  z4:=Tryz.sizeOf4
  v4:=Tryz.zeroValue4
  t9:=Tryz.underlying9
  a9:=Tryz.isAgg9
  z9:=Tryz.sizeOf9
  v9:=Tryz.zeroValue9
  t20:=Tryz.underlying20
  a20:=Tryz.isAgg20
  z20:=Tryz.sizeOf20
  v20:=Tryz.zeroValue20
  t31:=Tryz.underlying37
  a31:=Tryz.isAgg37
  z31:=Tryz.sizeOf37
  v31:=Tryz.zeroValue37
  t37:=Tryz.underlying22
  a37:=Tryz.isAgg22
  z37:=Tryz.sizeOf22
  v37:=Tryz.zeroValue22
  t70:=Tryz.underlying134
  a70:=Tryz.isAgg134
  z70:=Tryz.sizeOf134
  v70:=Tryz.zeroValue134
  t72:=Tryz.underlying136
  a72:=Tryz.isAgg136
  z72:=Tryz.sizeOf136
  v72:=Tryz.zeroValue136
  t75:=Tryz.underlying139
  a75:=Tryz.isAgg139
  z75:=Tryz.sizeOf139
  v75:=Tryz.zeroValue139
  t76:=Tryz.underlying140
  a76:=Tryz.isAgg140
  z76:=Tryz.sizeOf140
  v76:=Tryz.zeroValue140
  t127:=Tryz.underlying147
  a127:=Tryz.isAgg147
  z127:=Tryz.sizeOf147
  v127:=Tryz.zeroValue147
  t164:=Tryz.underlying165
  a164:=Tryz.isAgg165
  z164:=Tryz.sizeOf165
  v164:=Tryz.zeroValue165}
theorem Tryz.Builder_Extra_156:Builder.Extra Tryz.prog Tryz.lays156_ren:={
  sizeBuilder:=by kernel_rfl
  liesBuilder:=by kernel_rfl
  t5:=Tryz.underlying5
  a5:=Tryz.isAgg5
  z5:=Tryz.sizeOf5
  v5:=Tryz.zeroValue5
  infoByte:=by kernel_rfl
  cellsByte:=by kernel_rfl
  sizeByte:=by kernel_rfl
  neB5:=by decide}
open Go.RowKit in
theorem Tryz.strings_Join_none (a:Option Addr) (c:Nat) (sep:ByteArray) (w:World):
    Calls Tryz.prog 130 #[.slice a 0 c,.string sep] w fun e w'=>e= .returned (.string ⟨#[]⟩)∧w'=w:=Any.strings_Join_none Tryz.lays156 Tryz.Builder_Extra_156 a c sep w
open Go.RowKit in
theorem Tryz.strings_Join (bk o c:Nat) (xs:List ByteArray) (sep:ByteArray) (w:World) (hcells:∀(j:Nat) x,xs[j]?=some x→w.cell? ⟨bk,o+j,none⟩=some (.string x)) (hbk:bk<w.heap.size) (hN:xs.length≤140737488355328) (hcap:xs.length≤c) (hlen:(Lib.join (xs.map (·.data.toList)) sep.data.toList).length≤140737488355328):
    Calls Tryz.prog 130 #[.slice (some ⟨bk,o,none⟩) xs.length c,.string sep] w fun e w'=>e= .returned (.string ⟨(Lib.join (xs.map (·.data.toList)) sep.data.toList).toArray⟩)∧Below w.heap.size w w':=Any.strings_Join Tryz.lays156 Tryz.Builder_Extra_156 bk o c xs sep w hcells hbk hN hcap hlen
def Tryz.vV:Go.Shelf.Ren:=⟨fun|171=>129|243=>149|246=>164|283=>181|284=>182|285=>183|286=>184|129=>180|317=>194|318=>195|319=>196|320=>197|337=>201|338=>202|n=>n,fun|3=>3|9=>9|2=>2|4=>4|171=>161|0=>0|53=>160|37=>22|5=>5|173=>163|212=>175|51=>148|20=>20|213=>176|46=>129|232=>179|233=>180|n=>n,fun|17=>1|18=>2|19=>3|n=>n⟩
theorem Tryz.lays171:Go.Proofs.Lays.n171 Tryz.prog Tryz.vV:={
  mixed:=by kernel_rfl
  f129:=Tryz.func180.trans (congrArg some (by kernel_rfl))
  f171:=Tryz.func129.trans (congrArg some (by kernel_rfl))
  f243:=Tryz.func149.trans (congrArg some (by kernel_rfl))
  f246:=Tryz.func164.trans (congrArg some (by kernel_rfl))
  f283:=Tryz.func181.trans (congrArg some (by kernel_rfl))
  f284:=Tryz.func182.trans (congrArg some (by kernel_rfl))
  f285:=Tryz.func183.trans (congrArg some (by kernel_rfl))
  f286:=Tryz.func184.trans (congrArg some (by kernel_rfl))
  f317:=Tryz.func194.trans (congrArg some (by kernel_rfl))
  f318:=Tryz.func195.trans (congrArg some (by kernel_rfl))
  f319:=Tryz.func196.trans (congrArg some (by kernel_rfl))
  f320:=Tryz.func197.trans (congrArg some (by kernel_rfl))
  f337:=Tryz.func201.trans (congrArg some (by kernel_rfl))
  f338:=Tryz.func202.trans (congrArg some (by kernel_rfl))
  t0:=Tryz.underlying0
  a0:=Tryz.isAgg0
  z0:=Tryz.sizeOf0
  v0:=Tryz.zeroValue0
  t2:=Tryz.underlying2
  a2:=Tryz.isAgg2
  z2:=Tryz.sizeOf2
  v2:=Tryz.zeroValue2
  t3:=Tryz.underlying3
  a3:=Tryz.isAgg3
  z3:=Tryz.sizeOf3
  v3:=Tryz.zeroValue3
  t4:=Tryz.underlying4
  a4:=Tryz.isAgg4
  z4:=Tryz.sizeOf4
  v4:=Tryz.zeroValue4
  t5:=Tryz.underlying5
  a5:=Tryz.isAgg5
  z5:=Tryz.sizeOf5
  v5:=Tryz.zeroValue5
  t9:=Tryz.underlying9
  a9:=Tryz.isAgg9
  z9:=Tryz.sizeOf9
  v9:=Tryz.zeroValue9
  t20:=Tryz.underlying20
  a20:=Tryz.isAgg20
  z20:=Tryz.sizeOf20
  v20:=Tryz.zeroValue20
  t37:=Tryz.underlying22
  a37:=Tryz.isAgg22
  z37:=Tryz.sizeOf22
  v37:=Tryz.zeroValue22
  t46:=Tryz.underlying129
  a46:=Tryz.isAgg129
  z46:=Tryz.sizeOf129
  v46:=Tryz.zeroValue129
  t51:=Tryz.underlying148
  a51:=Tryz.isAgg148
  z51:=Tryz.sizeOf148
  v51:=Tryz.zeroValue148
  t53:=Tryz.underlying160
  a53:=Tryz.isAgg160
  z53:=Tryz.sizeOf160
  v53:=Tryz.zeroValue160
  t171:=Tryz.underlying161
  a171:=Tryz.isAgg161
  z171:=Tryz.sizeOf161
  v171:=Tryz.zeroValue161
  t173:=Tryz.underlying163
  a173:=Tryz.isAgg163
  z173:=Tryz.sizeOf163
  v173:=Tryz.zeroValue163
  t212:=Tryz.underlying175
  a212:=Tryz.isAgg175
  z212:=Tryz.sizeOf175
  v212:=Tryz.zeroValue175
  t213:=Tryz.underlying176
  a213:=Tryz.isAgg176
  z213:=Tryz.sizeOf176
  t232:=Tryz.underlying179
  a232:=Tryz.isAgg179
  z232:=Tryz.sizeOf179
  v232:=Tryz.zeroValue179
  t233:=Tryz.underlying180
  a233:=Tryz.isAgg180
  z233:=Tryz.sizeOf180
  v233:=Tryz.zeroValue180
  g17:=by kernel_rfl
  g18:=by kernel_rfl
  g19:=by kernel_rfl}
open Go.RowKit Go.Sort Go.Lib in
theorem Tryz.strconv_Itoa_small (i:Nat) (hi:i<100) (w:World):
    Calls Tryz.prog 129 #[.int .i64 i] w fun e w'=>e= .returned (.string ⟨(Lib.decDigits i).toArray⟩)∧w'=w:=Any.strconv_Itoa_small Tryz.lays171 i hi w
def Tryz.vX:Go.Shelf.Ren:=⟨fun|145=>85|220=>120|219=>143|217=>157|225=>158|224=>159|267=>160|266=>168|314=>169|n=>n,fun|9=>9|4=>4|59=>95|3=>3|5=>5|46=>129|146=>149|51=>148|n=>n,fun|1=>0|n=>n⟩
theorem Tryz.lays145:Go.Proofs.Lays.n145 Tryz.prog Tryz.vX:={
  mixed:=by kernel_rfl
  f145:=Tryz.func85.trans (congrArg some (by kernel_rfl))
  f217:=Tryz.func157.trans (congrArg some (by kernel_rfl))
  f219:=Tryz.func143.trans (congrArg some (by kernel_rfl))
  f220:=Tryz.func120.trans (congrArg some (by kernel_rfl))
  f224:=Tryz.func159.trans (congrArg some (by kernel_rfl))
  f225:=Tryz.func158.trans (congrArg some (by kernel_rfl))
  f266:=Tryz.func168.trans (congrArg some (by kernel_rfl))
  f267:=Tryz.func160.trans (congrArg some (by kernel_rfl))
  f314:=Tryz.func169.trans (congrArg some (by kernel_rfl))
  t3:=Tryz.underlying3
  a3:=Tryz.isAgg3
  z3:=Tryz.sizeOf3
  v3:=Tryz.zeroValue3
  t4:=Tryz.underlying4
  a4:=Tryz.isAgg4
  z4:=Tryz.sizeOf4
  v4:=Tryz.zeroValue4
  t5:=Tryz.underlying5
  a5:=Tryz.isAgg5
  z5:=Tryz.sizeOf5
  v5:=Tryz.zeroValue5
  t9:=Tryz.underlying9
  a9:=Tryz.isAgg9
  z9:=Tryz.sizeOf9
  v9:=Tryz.zeroValue9
  t46:=Tryz.underlying129
  a46:=Tryz.isAgg129
  z46:=Tryz.sizeOf129
  v46:=Tryz.zeroValue129
  t51:=Tryz.underlying148
  a51:=Tryz.isAgg148
  z51:=Tryz.sizeOf148
  v51:=Tryz.zeroValue148
  t59:=Tryz.underlying95
  a59:=Tryz.isAgg95
  z59:=Tryz.sizeOf95
  v59:=Tryz.zeroValue95
  t146:=Tryz.underlying149
  a146:=Tryz.isAgg149
  z146:=Tryz.sizeOf149
  v146:=Tryz.zeroValue149
  g1:=by kernel_rfl}
open Go.RowKit Go.Lib in
theorem Tryz.strings_Cut (s sep:ByteArray) (m:Int) (w:World) (hs:s.size<4294967281) (hm:w.cell? ⟨0,0,none⟩=some (.int .i64 m)):
    Calls Tryz.prog 85 #[.string s,.string sep] w fun e w'=>e= .returned (.tuple #[.string ⟨(Lib.cut s.data.toList sep.data.toList).1.toArray⟩,.string ⟨(Lib.cut s.data.toList sep.data.toList).2.1.toArray⟩,.bool (Lib.cut s.data.toList sep.data.toList).2.2])∧∃n,w'=w.drewN n:=Any.strings_Cut Tryz.lays145 s sep m w hs hm
def Tryz.tV:Go.Shelf.Ren:=⟨fun|20=>146|n=>n,fun|22=>23|3=>3|4=>4|0=>0|n=>n,fun|n=>n⟩
theorem Tryz.ui:Go.Proofs.Lays2.n20 Tryz.prog Tryz.tV:={
  mixed:=by kernel_rfl
  f20:=Tryz.func146.trans (congrArg some (by kernel_rfl))
  t0:=Tryz.underlying0
  a0:=Tryz.isAgg0
  z0:=Tryz.sizeOf0
  v0:=Tryz.zeroValue0
  t3:=Tryz.underlying3
  a3:=Tryz.isAgg3
  z3:=Tryz.sizeOf3
  v3:=Tryz.zeroValue3
  t4:=Tryz.underlying4
  a4:=Tryz.isAgg4
  z4:=Tryz.sizeOf4
  v4:=Tryz.zeroValue4
  t22:=Tryz.underlying23
  a22:=Tryz.isAgg23
  z22:=Tryz.sizeOf23
  v22:=Tryz.zeroValue23
  i3:=by kernel_rfl}
open Go.RowKit Go.Lib Go.Sort in
theorem Tryz.slices_Compact_int (blk off cap:Nat) (zs:List Int) (w:World) (hH:Holds (Value.int .i64) w blk off zs.toArray) (hsz:zs.length≤9223372036854775807) (hcap:zs.length≤cap):
    Calls Tryz.prog 146 #[.slice (some ⟨blk,off,none⟩) zs.length cap] w fun e w'=>e= .returned (.slice (some ⟨blk,off,none⟩) (Lib.compact zs).length cap)∧∃q,w'=putRow (Value.int .i64) (Sort.ahead w q) blk off (Lib.compact zs++List.replicate (zs.length - (Lib.compact zs).length) 0).toArray:=Any.slices_Compact_int Tryz.ui blk off cap zs w hH hsz hcap
open Go.RowKit Go.Lib Go.Sort in
theorem Tryz.slices_Compact_int_empty (a:Option Addr) (cap:Nat) (w:World):
    Calls Tryz.prog 146 #[.slice a 0 cap] w fun e w'=>e= .returned (.slice a 0 cap)∧w'=w:=Any.slices_Compact_int_empty Tryz.ui a cap w
def Tryz.we:Go.Shelf.Ren:=⟨fun|189=>145|125=>163|257=>162|128=>179|129=>180|294=>170|295=>171|296=>172|297=>173|298=>174|299=>175|216=>176|300=>177|301=>178|328=>188|329=>189|330=>190|331=>191|332=>192|215=>193|343=>200|n=>n,fun|28=>23|3=>3|46=>129|0=>0|51=>148|53=>160|4=>4|183=>153|182=>152|131=>33|5=>5|9=>9|218=>168|222=>172|228=>177|229=>113|n=>n,fun|n=>n⟩
theorem Tryz.lays189:Go.Proofs.Lays.n189 Tryz.prog Tryz.we:={
  mixed:=by kernel_rfl
  f125:=Tryz.func163.trans (congrArg some (by kernel_rfl))
  f128:=Tryz.func179.trans (congrArg some (by kernel_rfl))
  f129:=Tryz.func180.trans (congrArg some (by kernel_rfl))
  f189:=Tryz.func145.trans (congrArg some (by kernel_rfl))
  f215:=Tryz.func193.trans (congrArg some (by kernel_rfl))
  f216:=Tryz.func176.trans (congrArg some (by kernel_rfl))
  f257:=Tryz.func162.trans (congrArg some (by kernel_rfl))
  f294:=Tryz.func170.trans (congrArg some (by kernel_rfl))
  f295:=Tryz.func171.trans (congrArg some (by kernel_rfl))
  f296:=Tryz.func172.trans (congrArg some (by kernel_rfl))
  f297:=Tryz.func173.trans (congrArg some (by kernel_rfl))
  f298:=Tryz.func174.trans (congrArg some (by kernel_rfl))
  f299:=Tryz.func175.trans (congrArg some (by kernel_rfl))
  f300:=Tryz.func177.trans (congrArg some (by kernel_rfl))
  f301:=Tryz.func178.trans (congrArg some (by kernel_rfl))
  f328:=Tryz.func188.trans (congrArg some (by kernel_rfl))
  f329:=Tryz.func189.trans (congrArg some (by kernel_rfl))
  f330:=Tryz.func190.trans (congrArg some (by kernel_rfl))
  f331:=Tryz.func191.trans (congrArg some (by kernel_rfl))
  f332:=Tryz.func192.trans (congrArg some (by kernel_rfl))
  f343:=Tryz.func200.trans (congrArg some (by kernel_rfl))
  t0:=Tryz.underlying0
  a0:=Tryz.isAgg0
  z0:=Tryz.sizeOf0
  v0:=Tryz.zeroValue0
  t3:=Tryz.underlying3
  a3:=Tryz.isAgg3
  z3:=Tryz.sizeOf3
  v3:=Tryz.zeroValue3
  t4:=Tryz.underlying4
  a4:=Tryz.isAgg4
  z4:=Tryz.sizeOf4
  v4:=Tryz.zeroValue4
  t5:=Tryz.underlying5
  a5:=Tryz.isAgg5
  z5:=Tryz.sizeOf5
  v5:=Tryz.zeroValue5
  t9:=Tryz.underlying9
  a9:=Tryz.isAgg9
  z9:=Tryz.sizeOf9
  v9:=Tryz.zeroValue9
  t28:=Tryz.underlying23
  a28:=Tryz.isAgg23
  z28:=Tryz.sizeOf23
  v28:=Tryz.zeroValue23
  t46:=Tryz.underlying129
  a46:=Tryz.isAgg129
  z46:=Tryz.sizeOf129
  v46:=Tryz.zeroValue129
  t51:=Tryz.underlying148
  a51:=Tryz.isAgg148
  z51:=Tryz.sizeOf148
  v51:=Tryz.zeroValue148
  t53:=Tryz.underlying160
  a53:=Tryz.isAgg160
  z53:=Tryz.sizeOf160
  v53:=Tryz.zeroValue160
  t131:=Tryz.underlying33
  a131:=Tryz.isAgg33
  z131:=Tryz.sizeOf33
  v131:=Tryz.zeroValue33
  t182:=Tryz.underlying152
  a182:=Tryz.isAgg152
  z182:=Tryz.sizeOf152
  v182:=Tryz.zeroValue152
  t183:=Tryz.underlying153
  a183:=Tryz.isAgg153
  z183:=Tryz.sizeOf153
  v183:=Tryz.zeroValue153
  t218:=Tryz.underlying168
  a218:=Tryz.isAgg168
  z218:=Tryz.sizeOf168
  v218:=Tryz.zeroValue168
  t222:=Tryz.underlying172
  a222:=Tryz.isAgg172
  z222:=Tryz.sizeOf172
  v222:=Tryz.zeroValue172
  t228:=Tryz.underlying177
  a228:=Tryz.isAgg177
  z228:=Tryz.sizeOf177
  v228:=Tryz.zeroValue177
  t229:=Tryz.underlying113
  a229:=Tryz.isAgg113
  z229:=Tryz.sizeOf113
  v229:=Tryz.zeroValue113}
open Go.Sort Go.RowKit in
theorem Tryz.slices_Sort_int (blk off cap:Nat) (zs:List Int) (w:World) (hH:Holds (Value.int .i64) w blk off zs.toArray) (hblk:blk<w.heap.size) (hsz:zs.length<4611686018427387904):
    Calls Tryz.prog 145 #[.slice (some ⟨blk,off,none⟩) zs.length cap] w fun e w'=>
      e= .returned (.tuple #[])∧∃n os,w'=grow (putRow (Value.int .i64) (Sort.ahead w n) blk off (zs.mergeSort fun x y=>decide (x≤y)).toArray) os:=Any.slices_Sort_int Tryz.lays189 blk off cap zs w hH hblk hsz
theorem Tryz.slices_Sort_int_none (p:Option Addr) (cap:Nat) (w:World):
    Calls Tryz.prog 145 #[.slice p 0 cap] w fun e w'=>e= .returned (.tuple #[])∧w'=w:=Any.slices_Sort_int_none Tryz.lays189 p cap w
end Go.Proofs
