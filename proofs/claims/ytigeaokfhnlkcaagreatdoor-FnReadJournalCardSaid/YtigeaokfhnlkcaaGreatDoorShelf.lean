import Derived.Shelf.Strings.Cut
import Derived.Shelf.Sort.Plain
import Derived.Shelf.Slices.CompactI
import Derived.Test.YtigeaokfhnlkcaaGreatDoorProg
import Derived.Shelf.Slices.In.SortNone
import Derived.Sort.OwnSortedInts
namespace Go.Proofs
open Go.Shelf
def Tryz.wv:Go.Shelf.Ren:=⟨fun|145=>39|220=>71|219=>105|217=>126|225=>127|224=>128|267=>129|266=>139|314=>140|n=>n,fun|9=>9|4=>4|59=>64|3=>3|5=>5|46=>126|146=>137|51=>136|n=>n,fun|1=>0|n=>n⟩
theorem Tryz.lays145:Go.Proofs.Lays.n145 Tryz.prog Tryz.wv:={
  mixed:=by kernel_rfl
  f145:=Tryz.func39.trans (congrArg some (by kernel_rfl))
  f217:=Tryz.func126.trans (congrArg some (by kernel_rfl))
  f219:=Tryz.func105.trans (congrArg some (by kernel_rfl))
  f220:=Tryz.func71.trans (congrArg some (by kernel_rfl))
  f224:=Tryz.func128.trans (congrArg some (by kernel_rfl))
  f225:=Tryz.func127.trans (congrArg some (by kernel_rfl))
  f266:=Tryz.func139.trans (congrArg some (by kernel_rfl))
  f267:=Tryz.func129.trans (congrArg some (by kernel_rfl))
  f314:=Tryz.func140.trans (congrArg some (by kernel_rfl))
  t3:=Tryz.underlying3
  a3:=Tryz.isAgg3
  z3:=Tryz.sizeOf3
  v3:=Tryz.zeroValue3
  t4:=Tryz.underlying4
  a4:=Tryz.isAgg4
  z4:=Tryz.sizeOf4
  v4:=Tryz.zeroValue4
  t5:=Tryz.underlying5
  a5:=Tryz.isAgg5
  z5:=Tryz.sizeOf5
  v5:=Tryz.zeroValue5
  t9:=Tryz.underlying9
  a9:=Tryz.isAgg9
  z9:=Tryz.sizeOf9
  v9:=Tryz.zeroValue9
  t46:=Tryz.underlying126
  a46:=Tryz.isAgg126
  z46:=Tryz.sizeOf126
  v46:=Tryz.zeroValue126
  t51:=Tryz.underlying136
  a51:=Tryz.isAgg136
  z51:=Tryz.sizeOf136
  v51:=Tryz.zeroValue136
  t59:=Tryz.underlying64
  a59:=Tryz.isAgg64
  z59:=Tryz.sizeOf64
  v59:=Tryz.zeroValue64
  t146:=Tryz.underlying137
  a146:=Tryz.isAgg137
  z146:=Tryz.sizeOf137
  v146:=Tryz.zeroValue137
  g1:=by kernel_rfl}
open Go.RowKit Go.Lib in
theorem Tryz.strings_Cut (s sep:ByteArray) (m:Int) (w:World) (hs:s.size<4294967281) (hm:w.cell? ⟨0,0,none⟩=some (.int .i64 m)):
    Calls Tryz.prog 39 #[.string s,.string sep] w fun e w'=>e= .returned (.tuple #[.string ⟨(Lib.cut s.data.toList sep.data.toList).1.toArray⟩,.string ⟨(Lib.cut s.data.toList sep.data.toList).2.1.toArray⟩,.bool (Lib.cut s.data.toList sep.data.toList).2.2])∧∃n,w'=w.drewN n:=Any.strings_Cut Tryz.lays145 s sep m w hs hm
def Tryz.wx:Go.Shelf.Ren:=⟨fun|189=>111|125=>134|257=>133|128=>152|129=>153|294=>143|295=>144|296=>145|297=>146|298=>147|299=>148|216=>149|300=>150|301=>151|328=>161|329=>162|330=>163|331=>164|332=>165|215=>166|343=>173|n=>n,fun|28=>23|3=>3|46=>126|0=>0|51=>136|53=>149|4=>4|183=>142|182=>141|131=>84|5=>5|9=>9|218=>157|222=>161|228=>166|229=>107|n=>n,fun|n=>n⟩
theorem Tryz.lays189:Go.Proofs.Lays.n189 Tryz.prog Tryz.wx:={
  mixed:=by kernel_rfl
  f125:=Tryz.func134.trans (congrArg some (by kernel_rfl))
  f128:=Tryz.func152.trans (congrArg some (by kernel_rfl))
  f129:=Tryz.func153.trans (congrArg some (by kernel_rfl))
  f189:=Tryz.func111.trans (congrArg some (by kernel_rfl))
  f215:=Tryz.func166.trans (congrArg some (by kernel_rfl))
  f216:=Tryz.func149.trans (congrArg some (by kernel_rfl))
  f257:=Tryz.func133.trans (congrArg some (by kernel_rfl))
  f294:=Tryz.func143.trans (congrArg some (by kernel_rfl))
  f295:=Tryz.func144.trans (congrArg some (by kernel_rfl))
  f296:=Tryz.func145.trans (congrArg some (by kernel_rfl))
  f297:=Tryz.func146.trans (congrArg some (by kernel_rfl))
  f298:=Tryz.func147.trans (congrArg some (by kernel_rfl))
  f299:=Tryz.func148.trans (congrArg some (by kernel_rfl))
  f300:=Tryz.func150.trans (congrArg some (by kernel_rfl))
  f301:=Tryz.func151.trans (congrArg some (by kernel_rfl))
  f328:=Tryz.func161.trans (congrArg some (by kernel_rfl))
  f329:=Tryz.func162.trans (congrArg some (by kernel_rfl))
  f330:=Tryz.func163.trans (congrArg some (by kernel_rfl))
  f331:=Tryz.func164.trans (congrArg some (by kernel_rfl))
  f332:=Tryz.func165.trans (congrArg some (by kernel_rfl))
  f343:=Tryz.func173.trans (congrArg some (by kernel_rfl))
  t0:=Tryz.underlying0
  a0:=Tryz.isAgg0
  z0:=Tryz.sizeOf0
  v0:=Tryz.zeroValue0
  t3:=Tryz.underlying3
  a3:=Tryz.isAgg3
  z3:=Tryz.sizeOf3
  v3:=Tryz.zeroValue3
  t4:=Tryz.underlying4
  a4:=Tryz.isAgg4
  z4:=Tryz.sizeOf4
  v4:=Tryz.zeroValue4
  t5:=Tryz.underlying5
  a5:=Tryz.isAgg5
  z5:=Tryz.sizeOf5
  v5:=Tryz.zeroValue5
  t9:=Tryz.underlying9
  a9:=Tryz.isAgg9
  z9:=Tryz.sizeOf9
  v9:=Tryz.zeroValue9
  t28:=Tryz.underlying23
  a28:=Tryz.isAgg23
  z28:=Tryz.sizeOf23
  v28:=Tryz.zeroValue23
  t46:=Tryz.underlying126
  a46:=Tryz.isAgg126
  z46:=Tryz.sizeOf126
  v46:=Tryz.zeroValue126
  t51:=Tryz.underlying136
  a51:=Tryz.isAgg136
  z51:=Tryz.sizeOf136
  v51:=Tryz.zeroValue136
  t53:=Tryz.underlying149
  a53:=Tryz.isAgg149
  z53:=Tryz.sizeOf149
  v53:=Tryz.zeroValue149
  t131:=Tryz.underlying84
  a131:=Tryz.isAgg84
  z131:=Tryz.sizeOf84
  v131:=Tryz.zeroValue84
  t182:=Tryz.underlying141
  a182:=Tryz.isAgg141
  z182:=Tryz.sizeOf141
  v182:=Tryz.zeroValue141
  t183:=Tryz.underlying142
  a183:=Tryz.isAgg142
  z183:=Tryz.sizeOf142
  v183:=Tryz.zeroValue142
  t218:=Tryz.underlying157
  a218:=Tryz.isAgg157
  z218:=Tryz.sizeOf157
  v218:=Tryz.zeroValue157
  t222:=Tryz.underlying161
  a222:=Tryz.isAgg161
  z222:=Tryz.sizeOf161
  v222:=Tryz.zeroValue161
  t228:=Tryz.underlying166
  a228:=Tryz.isAgg166
  z228:=Tryz.sizeOf166
  v228:=Tryz.zeroValue166
  t229:=Tryz.underlying107
  a229:=Tryz.isAgg107
  z229:=Tryz.sizeOf107
  v229:=Tryz.zeroValue107}
open Go.Sort Go.RowKit in
theorem Tryz.slices_Sort_int (blk off cap:Nat) (zs:List Int) (w:World) (hH:Holds (Value.int .i64) w blk off zs.toArray) (hblk:blk<w.heap.size) (hsz:zs.length<4611686018427387904):
    Calls Tryz.prog 111 #[.slice (some ⟨blk,off,none⟩) zs.length cap] w fun e w'=>
      e= .returned (.tuple #[])∧∃n os,w'=grow (putRow (Value.int .i64) (Sort.ahead w n) blk off (zs.mergeSort fun x y=>decide (x≤y)).toArray) os:=Any.slices_Sort_int Tryz.lays189 blk off cap zs w hH hblk hsz
def Tryz.vp:Go.Shelf.Ren:=⟨fun|20=>112|n=>n,fun|22=>23|3=>3|4=>4|0=>0|n=>n,fun|n=>n⟩
theorem Tryz.vw:Go.Proofs.Lays2.n20 Tryz.prog Tryz.vp:={
  mixed:=by kernel_rfl
  f20:=Tryz.func112.trans (congrArg some (by kernel_rfl))
  t0:=Tryz.underlying0
  a0:=Tryz.isAgg0
  z0:=Tryz.sizeOf0
  v0:=Tryz.zeroValue0
  t3:=Tryz.underlying3
  a3:=Tryz.isAgg3
  z3:=Tryz.sizeOf3
  v3:=Tryz.zeroValue3
  t4:=Tryz.underlying4
  a4:=Tryz.isAgg4
  z4:=Tryz.sizeOf4
  v4:=Tryz.zeroValue4
  t22:=Tryz.underlying23
  a22:=Tryz.isAgg23
  z22:=Tryz.sizeOf23
  v22:=Tryz.zeroValue23
  i3:=by kernel_rfl}
open Go.RowKit Go.Lib Go.Sort in
theorem Tryz.slices_Compact_int (blk off cap:Nat) (zs:List Int) (w:World) (hH:Holds (Value.int .i64) w blk off zs.toArray) (hsz:zs.length≤9223372036854775807) (hcap:zs.length≤cap):
    Calls Tryz.prog 112 #[.slice (some ⟨blk,off,none⟩) zs.length cap] w fun e w'=>e= .returned (.slice (some ⟨blk,off,none⟩) (Lib.compact zs).length cap)∧∃q,w'=putRow (Value.int .i64) (Sort.ahead w q) blk off (Lib.compact zs++List.replicate (zs.length - (Lib.compact zs).length) 0).toArray:=Any.slices_Compact_int Tryz.vw blk off cap zs w hH hsz hcap
open Go.RowKit Go.Lib Go.Sort in
theorem Tryz.slices_Compact_int_empty (a:Option Addr) (cap:Nat) (w:World):
    Calls Tryz.prog 112 #[.slice a 0 cap] w fun e w'=>e= .returned (.slice a 0 cap)∧w'=w:=Any.slices_Compact_int_empty Tryz.vw a cap w
theorem Tryz.slices_Sort_int_none (p:Option Addr) (cap:Nat) (w:World):
    Calls Tryz.prog 111 #[.slice p 0 cap] w fun e w'=>e= .returned (.tuple #[])∧w'=w:=Any.slices_Sort_int_none Tryz.lays189 p cap w
end Go.Proofs
