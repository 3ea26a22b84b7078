import Derived.Shelf.Strings.OnBuilder
import Derived.Shelf.Strconv.Itoa3
import Derived.Shelf.Strings.Cut
import Derived.Shelf.Sort.Plain
import Derived.Shelf.Slices.CompactI
import Derived.Test.YtigeaokfhnlkcaaGreatDoorProg
import Derived.Shelf.Slices.In.SortNone
import Derived.Sort.OwnSortedInts
namespace Go.Proofs
open Go.Shelf
def Tryz.lays156_ren:Go.Shelf.Ren:=⟨fun|156=>87|165=>119|166=>120|169=>121|240=>136|241=>137|276=>158|277=>159|n=>n,fun|31=>27|9=>9|3=>3|4=>4|0=>0|20=>20|72=>119|76=>123|70=>117|37=>22|75=>122|127=>135|164=>154|5=>5|80=>125|n=>n,fun|n=>n⟩
theorem Tryz.lays156:Go.Proofs.Lays.n156 Tryz.prog Tryz.lays156_ren:={
  mixed:=by kernel_rfl
  f156:=Tryz.func87.trans (congrArg some (by kernel_rfl))
  f165:=Tryz.func119.trans (congrArg some (by kernel_rfl))
  f166:=Tryz.func120.trans (congrArg some (by kernel_rfl))
  f169:=Tryz.func121.trans (congrArg some (by kernel_rfl))
  f240:=Tryz.func136.trans (congrArg some (by kernel_rfl))
  f241:=Tryz.func137.trans (congrArg some (by kernel_rfl))
  f276:=Tryz.func158.trans (congrArg some (by kernel_rfl))
  f277:=Tryz.func159.trans (congrArg some (by kernel_rfl))
  t0:=Tryz.underlying0
  a0:=Tryz.isAgg0
  z0:=Tryz.sizeOf0
  v0:=Tryz.zeroValue0
  t3:=Tryz.underlying3
  a3:=Tryz.isAgg3
  z3:=Tryz.sizeOf3
  v3:=Tryz.zeroValue3
  t4:=Tryz.underlying4
  a4:=Tryz.isAgg4
  z4:=Tryz.sizeOf4
  v4:=Tryz.zeroValue4
  t9:=Tryz.underlying9
  a9:=Tryz.isAgg9
  z9:=Tryz.sizeOf9
  v9:=Tryz.zeroValue9
  t20:=Tryz.underlying20
  a20:=Tryz.isAgg20
  z20:=Tryz.sizeOf20
  v20:=Tryz.zeroValue20
  t31:=Tryz.underlying27
  a31:=Tryz.isAgg27
  z31:=Tryz.sizeOf27
  v31:=Tryz.zeroValue27
  t37:=Tryz.underlying22
  a37:=Tryz.isAgg22
  z37:=Tryz.sizeOf22
  v37:=Tryz.zeroValue22
  t70:=Tryz.underlying117
  a70:=Tryz.isAgg117
  z70:=Tryz.sizeOf117
  v70:=Tryz.zeroValue117
  t72:=Tryz.underlying119
  a72:=Tryz.isAgg119
  z72:=Tryz.sizeOf119
  v72:=Tryz.zeroValue119
  t75:=Tryz.underlying122
  a75:=Tryz.isAgg122
  z75:=Tryz.sizeOf122
  v75:=Tryz.zeroValue122
  t76:=Tryz.underlying123
  a76:=Tryz.isAgg123
  z76:=Tryz.sizeOf123
  v76:=Tryz.zeroValue123
  t127:=Tryz.underlying135
  a127:=Tryz.isAgg135
  z127:=Tryz.sizeOf135
  v127:=Tryz.zeroValue135
  t164:=Tryz.underlying154
  a164:=Tryz.isAgg154
  z164:=Tryz.sizeOf154
  v164:=Tryz.zeroValue154}
theorem Tryz.Builder_Extra_156:Builder.Extra Tryz.prog Tryz.lays156_ren:={
  sizeBuilder:=by kernel_rfl
  liesBuilder:=by kernel_rfl
  t5:=Tryz.underlying5
  a5:=Tryz.isAgg5
  z5:=Tryz.sizeOf5
  v5:=Tryz.zeroValue5
  infoByte:=by kernel_rfl
  cellsByte:=by kernel_rfl
  sizeByte:=by kernel_rfl
  neB5:=by decide}
open Go.RowKit in
theorem Tryz.strings_Join_none (a:Option Addr) (c:Nat) (sep:ByteArray) (w:World):
    Calls Tryz.prog 87 #[.slice a 0 c,.string sep] w fun e w'=>e= .returned (.string ⟨#[]⟩)∧w'=w:=Any.strings_Join_none Tryz.lays156 Tryz.Builder_Extra_156 a c sep w
open Go.RowKit in
theorem Tryz.strings_Join (bk o c:Nat) (xs:List ByteArray) (sep:ByteArray) (w:World) (hcells:∀(j:Nat) x,xs[j]?=some x→w.cell? ⟨bk,o+j,none⟩=some (.string x)) (hbk:bk<w.heap.size) (hN:xs.length≤140737488355328) (hcap:xs.length≤c) (hlen:(Lib.join (xs.map (·.data.toList)) sep.data.toList).length≤140737488355328):
    Calls Tryz.prog 87 #[.slice (some ⟨bk,o,none⟩) xs.length c,.string sep] w fun e w'=>e= .returned (.string ⟨(Lib.join (xs.map (·.data.toList)) sep.data.toList).toArray⟩)∧Below w.heap.size w w':=Any.strings_Join Tryz.lays156 Tryz.Builder_Extra_156 bk o c xs sep w hcells hbk hN hcap hlen
def Tryz.xE:Go.Shelf.Ren:=⟨fun|171=>86|243=>118|246=>135|283=>154|284=>155|285=>156|286=>157|129=>153|317=>167|318=>168|319=>169|320=>170|337=>174|338=>175|n=>n,fun|3=>3|9=>9|2=>2|4=>4|171=>150|0=>0|53=>149|37=>22|5=>5|173=>152|212=>164|51=>136|20=>20|213=>165|46=>126|232=>168|233=>169|n=>n,fun|17=>1|18=>2|19=>3|n=>n⟩
theorem Tryz.lays171:Go.Proofs.Lays.n171 Tryz.prog Tryz.xE:={
  mixed:=by kernel_rfl
  f129:=Tryz.func153.trans (congrArg some (by kernel_rfl))
  f171:=Tryz.func86.trans (congrArg some (by kernel_rfl))
  f243:=Tryz.func118.trans (congrArg some (by kernel_rfl))
  f246:=Tryz.func135.trans (congrArg some (by kernel_rfl))
  f283:=Tryz.func154.trans (congrArg some (by kernel_rfl))
  f284:=Tryz.func155.trans (congrArg some (by kernel_rfl))
  f285:=Tryz.func156.trans (congrArg some (by kernel_rfl))
  f286:=Tryz.func157.trans (congrArg some (by kernel_rfl))
  f317:=Tryz.func167.trans (congrArg some (by kernel_rfl))
  f318:=Tryz.func168.trans (congrArg some (by kernel_rfl))
  f319:=Tryz.func169.trans (congrArg some (by kernel_rfl))
  f320:=Tryz.func170.trans (congrArg some (by kernel_rfl))
  f337:=Tryz.func174.trans (congrArg some (by kernel_rfl))
  f338:=Tryz.func175.trans (congrArg some (by kernel_rfl))
  t0:=Tryz.underlying0
  a0:=Tryz.isAgg0
  z0:=Tryz.sizeOf0
  v0:=Tryz.zeroValue0
  t2:=Tryz.underlying2
  a2:=Tryz.isAgg2
  z2:=Tryz.sizeOf2
  v2:=Tryz.zeroValue2
  t3:=Tryz.underlying3
  a3:=Tryz.isAgg3
  z3:=Tryz.sizeOf3
  v3:=Tryz.zeroValue3
  t4:=Tryz.underlying4
  a4:=Tryz.isAgg4
  z4:=Tryz.sizeOf4
  v4:=Tryz.zeroValue4
  t5:=Tryz.underlying5
  a5:=Tryz.isAgg5
  z5:=Tryz.sizeOf5
  v5:=Tryz.zeroValue5
  t9:=Tryz.underlying9
  a9:=Tryz.isAgg9
  z9:=Tryz.sizeOf9
  v9:=Tryz.zeroValue9
  t20:=Tryz.underlying20
  a20:=Tryz.isAgg20
  z20:=Tryz.sizeOf20
  v20:=Tryz.zeroValue20
  t37:=Tryz.underlying22
  a37:=Tryz.isAgg22
  z37:=Tryz.sizeOf22
  v37:=Tryz.zeroValue22
  t46:=Tryz.underlying126
  a46:=Tryz.isAgg126
  z46:=Tryz.sizeOf126
  v46:=Tryz.zeroValue126
  t51:=Tryz.underlying136
  a51:=Tryz.isAgg136
  z51:=Tryz.sizeOf136
  v51:=Tryz.zeroValue136
  t53:=Tryz.underlying149
  a53:=Tryz.isAgg149
  z53:=Tryz.sizeOf149
  v53:=Tryz.zeroValue149
  t171:=Tryz.underlying150
  a171:=Tryz.isAgg150
  z171:=Tryz.sizeOf150
  v171:=Tryz.zeroValue150
  t173:=Tryz.underlying152
  a173:=Tryz.isAgg152
  z173:=Tryz.sizeOf152
  v173:=Tryz.zeroValue152
  t212:=Tryz.underlying164
  a212:=Tryz.isAgg164
  z212:=Tryz.sizeOf164
  v212:=Tryz.zeroValue164
  t213:=Tryz.underlying165
  a213:=Tryz.isAgg165
  z213:=Tryz.sizeOf165
  t232:=Tryz.underlying168
  a232:=Tryz.isAgg168
  z232:=Tryz.sizeOf168
  v232:=Tryz.zeroValue168
  t233:=Tryz.underlying169
  a233:=Tryz.isAgg169
  z233:=Tryz.sizeOf169
  v233:=Tryz.zeroValue169
  g17:=by kernel_rfl
  g18:=by kernel_rfl
  g19:=by kernel_rfl}
open Go.RowKit Go.Sort Go.Lib in
theorem Tryz.strconv_Itoa_small (i:Nat) (hi:i<100) (w:World):
    Calls Tryz.prog 86 #[.int .i64 i] w fun e w'=>e= .returned (.string ⟨(Lib.decDigits i).toArray⟩)∧w'=w:=Any.strconv_Itoa_small Tryz.lays171 i hi w
def Tryz.xF:Go.Shelf.Ren:=⟨fun|145=>39|220=>71|219=>105|217=>126|225=>127|224=>128|267=>129|266=>139|314=>140|n=>n,fun|9=>9|4=>4|59=>64|3=>3|5=>5|46=>126|146=>137|51=>136|n=>n,fun|1=>0|n=>n⟩
theorem Tryz.lays145:Go.Proofs.Lays.n145 Tryz.prog Tryz.xF:={
  mixed:=by kernel_rfl
  f145:=Tryz.func39.trans (congrArg some (by kernel_rfl))
  f217:=Tryz.func126.trans (congrArg some (by kernel_rfl))
  f219:=Tryz.func105.trans (congrArg some (by kernel_rfl))
  f220:=Tryz.func71.trans (congrArg some (by kernel_rfl))
  f224:=Tryz.func128.trans (congrArg some (by kernel_rfl))
  f225:=Tryz.func127.trans (congrArg some (by kernel_rfl))
  f266:=Tryz.func139.trans (congrArg some (by kernel_rfl))
  f267:=Tryz.func129.trans (congrArg some (by kernel_rfl))
  f314:=Tryz.func140.trans (congrArg some (by kernel_rfl))
  t3:=Tryz.underlying3
  a3:=Tryz.isAgg3
  z3:=Tryz.sizeOf3
  v3:=Tryz.zeroValue3
  t4:=Tryz.underlying4
  a4:=Tryz.isAgg4
  z4:=Tryz.sizeOf4
  v4:=Tryz.zeroValue4
  t5:=Tryz.underlying5
  a5:=Tryz.isAgg5
  z5:=Tryz.sizeOf5
  v5:=Tryz.zeroValue5
  t9:=Tryz.underlying9
  a9:=Tryz.isAgg9
  z9:=Tryz.sizeOf9
  v9:=Tryz.zeroValue9
  t46:=Tryz.underlying126
  a46:=Tryz.isAgg126
  z46:=Tryz.sizeOf126
  v46:=Tryz.zeroValue126
  t51:=Tryz.underlying136
  a51:=Tryz.isAgg136
  z51:=Tryz.sizeOf136
  v51:=Tryz.zeroValue136
  t59:=Tryz.underlying64
  a59:=Tryz.isAgg64
  z59:=Tryz.sizeOf64
  v59:=Tryz.zeroValue64
  t146:=Tryz.underlying137
  a146:=Tryz.isAgg137
  z146:=Tryz.sizeOf137
  v146:=Tryz.zeroValue137
  g1:=by kernel_rfl}
open Go.RowKit Go.Lib in
theorem Tryz.strings_Cut (s sep:ByteArray) (m:Int) (w:World) (hs:s.size<4294967281) (hm:w.cell? ⟨0,0,none⟩=some (.int .i64 m)):
    Calls Tryz.prog 39 #[.string s,.string sep] w fun e w'=>e= .returned (.tuple #[.string ⟨(Lib.cut s.data.toList sep.data.toList).1.toArray⟩,.string ⟨(Lib.cut s.data.toList sep.data.toList).2.1.toArray⟩,.bool (Lib.cut s.data.toList sep.data.toList).2.2])∧∃n,w'=w.drewN n:=Any.strings_Cut Tryz.lays145 s sep m w hs hm
def Tryz.xG:Go.Shelf.Ren:=⟨fun|189=>111|125=>134|257=>133|128=>152|129=>153|294=>143|295=>144|296=>145|297=>146|298=>147|299=>148|216=>149|300=>150|301=>151|328=>161|329=>162|330=>163|331=>164|332=>165|215=>166|343=>173|n=>n,fun|28=>23|3=>3|46=>126|0=>0|51=>136|53=>149|4=>4|183=>142|182=>141|131=>84|5=>5|9=>9|218=>157|222=>161|228=>166|229=>107|n=>n,fun|n=>n⟩
theorem Tryz.lays189:Go.Proofs.Lays.n189 Tryz.prog Tryz.xG:={
  mixed:=by kernel_rfl
  f125:=Tryz.func134.trans (congrArg some (by kernel_rfl))
  f128:=Tryz.func152.trans (congrArg some (by kernel_rfl))
  f129:=Tryz.func153.trans (congrArg some (by kernel_rfl))
  f189:=Tryz.func111.trans (congrArg some (by kernel_rfl))
  f215:=Tryz.func166.trans (congrArg some (by kernel_rfl))
  f216:=Tryz.func149.trans (congrArg some (by kernel_rfl))
  f257:=Tryz.func133.trans (congrArg some (by kernel_rfl))
  f294:=Tryz.func143.trans (congrArg some (by kernel_rfl))
  f295:=Tryz.func144.trans (congrArg some (by kernel_rfl))
  f296:=Tryz.func145.trans (congrArg some (by kernel_rfl))
  f297:=Tryz.func146.trans (congrArg some (by kernel_rfl))
  f298:=Tryz.func147.trans (congrArg some (by kernel_rfl))
  f299:=Tryz.func148.trans (congrArg some (by kernel_rfl))
  f300:=Tryz.func150.trans (congrArg some (by kernel_rfl))
  f301:=Tryz.func151.trans (congrArg some (by kernel_rfl))
  f328:=Tryz.func161.trans (congrArg some (by kernel_rfl))
  f329:=Tryz.func162.trans (congrArg some (by kernel_rfl))
  f330:=Tryz.func163.trans (congrArg some (by kernel_rfl))
  f331:=Tryz.func164.trans (congrArg some (by kernel_rfl))
  f332:=Tryz.func165.trans (congrArg some (by kernel_rfl))
  f343:=Tryz.func173.trans (congrArg some (by kernel_rfl))
  t0:=Tryz.underlying0
  a0:=Tryz.isAgg0
  z0:=Tryz.sizeOf0
  v0:=Tryz.zeroValue0
  t3:=Tryz.underlying3
  a3:=Tryz.isAgg3
  z3:=Tryz.sizeOf3
  v3:=Tryz.zeroValue3
  t4:=Tryz.underlying4
  a4:=Tryz.isAgg4
  z4:=Tryz.sizeOf4
  v4:=Tryz.zeroValue4
  t5:=Tryz.underlying5
  a5:=Tryz.isAgg5
  z5:=Tryz.sizeOf5
  v5:=Tryz.zeroValue5
  t9:=Tryz.underlying9
  a9:=Tryz.isAgg9
  z9:=Tryz.sizeOf9
  v9:=Tryz.zeroValue9
  t28:=Tryz.underlying23
  a28:=Tryz.isAgg23
  z28:=Tryz.sizeOf23
  v28:=Tryz.zeroValue23
  t46:=Tryz.underlying126
  a46:=Tryz.isAgg126
  z46:=Tryz.sizeOf126
  v46:=Tryz.zeroValue126
  t51:=Tryz.underlying136
  a51:=Tryz.isAgg136
  z51:=Tryz.sizeOf136
  v51:=Tryz.zeroValue136
  t53:=Tryz.underlying149
  a53:=Tryz.isAgg149
  z53:=Tryz.sizeOf149
  v53:=Tryz.zeroValue149
  t131:=Tryz.underlying84
  a131:=Tryz.isAgg84
  z131:=Tryz.sizeOf84
  v131:=Tryz.zeroValue84
  t182:=Tryz.underlying141
  a182:=Tryz.isAgg141
  z182:=Tryz.sizeOf141
  v182:=Tryz.zeroValue141
  t183:=Tryz.underlying142
  a183:=Tryz.isAgg142
  z183:=Tryz.sizeOf142
  v183:=Tryz.zeroValue142
  t218:=Tryz.underlying157
  a218:=Tryz.isAgg157
  z218:=Tryz.sizeOf157
  v218:=Tryz.zeroValue157
  t222:=Tryz.underlying161
  a222:=Tryz.isAgg161
  z222:=Tryz.sizeOf161
  v222:=Tryz.zeroValue161
  t228:=Tryz.underlying166
  a228:=Tryz.isAgg166
  z228:=Tryz.sizeOf166
  v228:=Tryz.zeroValue166
  t229:=Tryz.underlying107
  a229:=Tryz.isAgg107
  z229:=Tryz.sizeOf107
  v229:=Tryz.zeroValue107}
open Go.Sort Go.RowKit in
theorem Tryz.slices_Sort_int (blk off cap:Nat) (zs:List Int) (w:World) (hH:Holds (Value.int .i64) w blk off zs.toArray) (hblk:blk<w.heap.size) (hsz:zs.length<4611686018427387904):
    Calls Tryz.prog 111 #[.slice (some ⟨blk,off,none⟩) zs.length cap] w fun e w'=>
      e= .returned (.tuple #[])∧∃n os,w'=grow (putRow (Value.int .i64) (Sort.ahead w n) blk off (zs.mergeSort fun x y=>decide (x≤y)).toArray) os:=Any.slices_Sort_int Tryz.lays189 blk off cap zs w hH hblk hsz
def Tryz.wx:Go.Shelf.Ren:=⟨fun|20=>112|n=>n,fun|22=>23|3=>3|4=>4|0=>0|n=>n,fun|n=>n⟩
theorem Tryz.wH:Go.Proofs.Lays2.n20 Tryz.prog Tryz.wx:={
  mixed:=by kernel_rfl
  f20:=Tryz.func112.trans (congrArg some (by kernel_rfl))
  t0:=Tryz.underlying0
  a0:=Tryz.isAgg0
  z0:=Tryz.sizeOf0
  v0:=Tryz.zeroValue0
  t3:=Tryz.underlying3
  a3:=Tryz.isAgg3
  z3:=Tryz.sizeOf3
  v3:=Tryz.zeroValue3
  t4:=Tryz.underlying4
  a4:=Tryz.isAgg4
  z4:=Tryz.sizeOf4
  v4:=Tryz.zeroValue4
  t22:=Tryz.underlying23
  a22:=Tryz.isAgg23
  z22:=Tryz.sizeOf23
  v22:=Tryz.zeroValue23
  i3:=by kernel_rfl}
open Go.RowKit Go.Lib Go.Sort in
theorem Tryz.slices_Compact_int (blk off cap:Nat) (zs:List Int) (w:World) (hH:Holds (Value.int .i64) w blk off zs.toArray) (hsz:zs.length≤9223372036854775807) (hcap:zs.length≤cap):
    Calls Tryz.prog 112 #[.slice (some ⟨blk,off,none⟩) zs.length cap] w fun e w'=>e= .returned (.slice (some ⟨blk,off,none⟩) (Lib.compact zs).length cap)∧∃q,w'=putRow (Value.int .i64) (Sort.ahead w q) blk off (Lib.compact zs++List.replicate (zs.length - (Lib.compact zs).length) 0).toArray:=Any.slices_Compact_int Tryz.wH blk off cap zs w hH hsz hcap
open Go.RowKit Go.Lib Go.Sort in
theorem Tryz.slices_Compact_int_empty (a:Option Addr) (cap:Nat) (w:World):
    Calls Tryz.prog 112 #[.slice a 0 cap] w fun e w'=>e= .returned (.slice a 0 cap)∧w'=w:=Any.slices_Compact_int_empty Tryz.wH a cap w
theorem Tryz.slices_Sort_int_none (p:Option Addr) (cap:Nat) (w:World):
    Calls Tryz.prog 111 #[.slice p 0 cap] w fun e w'=>e= .returned (.tuple #[])∧w'=w:=Any.slices_Sort_int_none Tryz.lays189 p cap w
end Go.Proofs
