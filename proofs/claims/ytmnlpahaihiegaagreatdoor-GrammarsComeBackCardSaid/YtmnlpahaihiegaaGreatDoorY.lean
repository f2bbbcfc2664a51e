/- A part of the proof of grammarsComeBack (merged by a program). -/
import Derived.Test.YtmnlpahaihiegaaGreatDoorX
import Derived.Test.YtmnlpahaihiegaaGreatDoorR0
import Derived.Test.YtmnlpahaihiegaaGreatDoorR1
import Derived.Test.YtmnlpahaihiegaaGreatDoorR2
import Derived.Test.YtmnlpahaihiegaaGreatDoorR3
import Derived.Test.YtmnlpahaihiegaaGreatDoorR4
import Derived.Test.YtmnlpahaihiegaaGreatDoorR5
import Derived.Test.YtmnlpahaihiegaaGreatDoorE
import Derived.Test.YtmnlpahaihiegaaGreatDoorC
import Derived.Lib.AppendIntMem
import Derived.Lib.Index
import Derived.Lib.Join
import Derived.Lib.SplitLaws
import Derived.Shelf.LaysM
import Derived.Shelf.Strconv.Itoa3
import Derived.Shelf.Strings.OnBuilder
import Derived.Shelf.Strings.Repeat
import Derived.Shelf.Strings.Search1
import Derived.Shelf.Strings.Search2
import Derived.Shelf.Strings.Search3
import Derived.Shelf.Strings.Split
import Derived.Test.YtmnlpahaihiegaaGreatDoorProg
section
namespace Go.Am
open Go Go.Proofs
theorem Zf {f:Nat}{fn:Aq}(h:codeOf f=some fn):f<354:=by
 unfold codeOf at h
 rcases Nat.lt_or_ge f 354 with h1|h1
 ·exact h1
 ·rw[show Nat.blt f 354=false by rw[blt_eq]; simp; omega] at h
  cases h
theorem kF {f:Nat}{fn:Aq}(h:codeOf f=some fn):dM Tryz.prog X GT f fn:=by
 have hf:=Zf h
 rcases Nat.lt_or_ge f (60*1) with h1|h1
 ·exact Gj r0 (by omega) (by omega) h
 rcases Nat.lt_or_ge f (60*2) with h2|h2
 ·exact Gj r1 (by omega) (by omega) h
 rcases Nat.lt_or_ge f (60*3) with h3|h3
 ·exact Gj r2 (by omega) (by omega) h
 rcases Nat.lt_or_ge f (60*4) with h4|h4
 ·exact Gj r3 (by omega) (by omega) h
 rcases Nat.lt_or_ge f (60*5) with h5|h5
 ·exact Gj r4 (by omega) (by omega) h
 ·exact Gj r5 (by omega) (by omega) h
end Go.Am
end
namespace Go.Am
open Go
theorem Uy (t:List UInt8):∀(s:List UInt8) (i:Nat),index.go t s i=bif Lib.index s t==-1 then -1 else Lib.index s t+i
 |[],i=>by
  unfold index.go Lib.index
  cases t.isEmpty <;> simp
 |b::s,i=>by
  have h:=Lib.index_ge s t
  unfold index.go Lib.index
  rw[Uy t s (i+1)]
  cases t.isPrefixOf (b::s)
  ·simp only[Bool.false_eq_true,if_false]
   by_cases h1:Lib.index s t=-1
   ·simp[h1]
   ·have h2:(Lib.index s t==-1)=false:=beq_false_of_ne h1
    have h3:(Lib.index s t+1==-1)=false:=beq_false_of_ne (by omega)
    simp only[h2,Bool.false_eq_true,if_false,h3,cond_false]
    omega
  ·simp
theorem ZR (s t:List UInt8):index s t=Lib.index s t:=by
 unfold index
 rw[Uy]
 by_cases h:Lib.index s t=-1
 ·simp[h]
 ·have h2:(Lib.index s t==-1)=false:=beq_false_of_ne h
  simp[h2]
end Go.Am
section
namespace Go.Proofs
open Go.Shelf
def Tryz.Ur:Go.Shelf.Ren:=⟨fun|219=>153|217=>108|225=>200|224=>201|267=>202|266=>156|314=>248|n=>n,fun|9=>9|3=>3|4=>4|5=>5|46=>180|146=>239|51=>238|n=>n,fun|1=>2|n=>n⟩
theorem Tryz.ek:Go.Proofs.Lays.n219 Tryz.prog Tryz.Ur:={
 mixed:=by kernel_rfl
 f217:=Tryz.func108.trans (congrArg some (by kernel_rfl))
 f219:=Tryz.func153.trans (congrArg some (by kernel_rfl))
 f224:=Tryz.func201.trans (congrArg some (by kernel_rfl))
 f225:=Tryz.func200.trans (congrArg some (by kernel_rfl))
 f266:=Tryz.func156.trans (congrArg some (by kernel_rfl))
 f267:=Tryz.func202.trans (congrArg some (by kernel_rfl))
 f314:=Tryz.func248.trans (congrArg some (by kernel_rfl))
 t3:=Tryz.underlying3
 a3:=Tryz.isAgg3
 z3:=Tryz.sizeOf3
 v3:=Tryz.zeroValue3
 t4:=Tryz.underlying4
 a4:=Tryz.isAgg4
 z4:=Tryz.sizeOf4
 v4:=Tryz.zeroValue4
 t5:=Tryz.underlying5
 a5:=Tryz.isAgg5
 z5:=Tryz.sizeOf5
 v5:=Tryz.zeroValue5
 t9:=Tryz.underlying9
 a9:=Tryz.isAgg9
 z9:=Tryz.sizeOf9
 v9:=Tryz.zeroValue9
 t46:=Tryz.underlying180
 a46:=Tryz.isAgg180
 z46:=Tryz.sizeOf180
 v46:=Tryz.zeroValue180
 t51:=Tryz.underlying238
 a51:=Tryz.isAgg238
 z51:=Tryz.sizeOf238
 v51:=Tryz.zeroValue238
 t146:=Tryz.underlying239
 a146:=Tryz.isAgg239
 z146:=Tryz.sizeOf239
 v146:=Tryz.zeroValue239
 g1:=by kernel_rfl }
def Tryz.Oy:Go.Shelf.Ren:=⟨fun|105=>50|212=>96|99=>97|165=>59|166=>23|170=>27|169=>28|263=>147|264=>148|206=>149|240=>58|241=>103|276=>102|277=>152|n=>n,fun|9=>9|3=>3|4=>4|20=>20|0=>0|46=>180|109=>181|5=>5|72=>57|76=>60|51=>238|146=>239|53=>241|148=>242|70=>54|37=>55|75=>59|127=>109|164=>185|80=>31|n=>n,fun|n=>n⟩
theorem Tryz.Ph:Go.Proofs.Lays.n105 Tryz.prog Tryz.Oy:={
 mixed:=by kernel_rfl
 f99:=Tryz.func97.trans (congrArg some (by kernel_rfl))
 f105:=Tryz.func50.trans (congrArg some (by kernel_rfl))
 f165:=Tryz.func59.trans (congrArg some (by kernel_rfl))
 f166:=Tryz.func23.trans (congrArg some (by kernel_rfl))
 f169:=Tryz.func28.trans (congrArg some (by kernel_rfl))
 f170:=Tryz.func27.trans (congrArg some (by kernel_rfl))
 f206:=Tryz.func149.trans (congrArg some (by kernel_rfl))
 f212:=Tryz.func96.trans (congrArg some (by kernel_rfl))
 f240:=Tryz.func58.trans (congrArg some (by kernel_rfl))
 f241:=Tryz.func103.trans (congrArg some (by kernel_rfl))
 f263:=Tryz.func147.trans (congrArg some (by kernel_rfl))
 f264:=Tryz.func148.trans (congrArg some (by kernel_rfl))
 f276:=Tryz.func102.trans (congrArg some (by kernel_rfl))
 f277:=Tryz.func152.trans (congrArg some (by kernel_rfl))
 t0:=Tryz.underlying0
 a0:=Tryz.isAgg0
 z0:=Tryz.sizeOf0
 v0:=Tryz.zeroValue0
 t3:=Tryz.underlying3
 a3:=Tryz.isAgg3
 z3:=Tryz.sizeOf3
 v3:=Tryz.zeroValue3
 t4:=Tryz.underlying4
 a4:=Tryz.isAgg4
 z4:=Tryz.sizeOf4
 v4:=Tryz.zeroValue4
 t5:=Tryz.underlying5
 a5:=Tryz.isAgg5
 z5:=Tryz.sizeOf5
 v5:=Tryz.zeroValue5
 t9:=Tryz.underlying9
 a9:=Tryz.isAgg9
 z9:=Tryz.sizeOf9
 v9:=Tryz.zeroValue9
 t20:=Tryz.underlying20
 a20:=Tryz.isAgg20
 z20:=Tryz.sizeOf20
 v20:=Tryz.zeroValue20
 t37:=Tryz.underlying55
 a37:=Tryz.isAgg55
 z37:=Tryz.sizeOf55
 v37:=Tryz.zeroValue55
 t46:=Tryz.underlying180
 a46:=Tryz.isAgg180
 z46:=Tryz.sizeOf180
 v46:=Tryz.zeroValue180
 t51:=Tryz.underlying238
 a51:=Tryz.isAgg238
 z51:=Tryz.sizeOf238
 v51:=Tryz.zeroValue238
 t53:=Tryz.underlying241
 a53:=Tryz.isAgg241
 z53:=Tryz.sizeOf241
 v53:=Tryz.zeroValue241
 t70:=Tryz.underlying54
 a70:=Tryz.isAgg54
 z70:=Tryz.sizeOf54
 v70:=Tryz.zeroValue54
 t72:=Tryz.underlying57
 a72:=Tryz.isAgg57
 z72:=Tryz.sizeOf57
 v72:=Tryz.zeroValue57
 t75:=Tryz.underlying59
 a75:=Tryz.isAgg59
 z75:=Tryz.sizeOf59
 v75:=Tryz.zeroValue59
 t76:=Tryz.underlying60
 a76:=Tryz.isAgg60
 z76:=Tryz.sizeOf60
 v76:=Tryz.zeroValue60
 t109:=Tryz.underlying181
 a109:=Tryz.isAgg181
 z109:=Tryz.sizeOf181
 v109:=Tryz.zeroValue181
 t127:=Tryz.underlying109
 a127:=Tryz.isAgg109
 z127:=Tryz.sizeOf109
 v127:=Tryz.zeroValue109
 t146:=Tryz.underlying239
 a146:=Tryz.isAgg239
 z146:=Tryz.sizeOf239
 v146:=Tryz.zeroValue239
 t148:=Tryz.underlying242
 a148:=Tryz.isAgg242
 z148:=Tryz.sizeOf242
 v148:=Tryz.zeroValue242
 t164:=Tryz.underlying185
 a164:=Tryz.isAgg185
 z164:=Tryz.sizeOf185
 v164:=Tryz.zeroValue185 }
def Tryz.Us:Go.Shelf.Ren:=⟨fun|146=>105|221=>154|268=>203|138=>204|143=>205|195=>249|197=>250|218=>251|219=>153|260=>288|217=>108|225=>200|224=>201|267=>202|266=>156|314=>248|n=>n,fun|9=>9|31=>26|3=>3|4=>4|0=>0|105=>365|21=>21|5=>5|46=>180|119=>233|139=>405|138=>404|146=>239|51=>238|n=>n,fun|1=>2|3=>9|4=>10|n=>n⟩
theorem Tryz.eu:Go.Proofs.Lays.n146 Tryz.prog Tryz.Us:={
 mixed:=by kernel_rfl
 f138:=Tryz.func204.trans (congrArg some (by kernel_rfl))
 f143:=Tryz.func205.trans (congrArg some (by kernel_rfl))
 f146:=Tryz.func105.trans (congrArg some (by kernel_rfl))
 f195:=Tryz.func249.trans (congrArg some (by kernel_rfl))
 f197:=Tryz.func250.trans (congrArg some (by kernel_rfl))
 f217:=Tryz.func108.trans (congrArg some (by kernel_rfl))
 f218:=Tryz.func251.trans (congrArg some (by kernel_rfl))
 f219:=Tryz.func153.trans (congrArg some (by kernel_rfl))
 f221:=Tryz.func154.trans (congrArg some (by kernel_rfl))
 f224:=Tryz.func201.trans (congrArg some (by kernel_rfl))
 f225:=Tryz.func200.trans (congrArg some (by kernel_rfl))
 f260:=Tryz.func288.trans (congrArg some (by kernel_rfl))
 f266:=Tryz.func156.trans (congrArg some (by kernel_rfl))
 f267:=Tryz.func202.trans (congrArg some (by kernel_rfl))
 f268:=Tryz.func203.trans (congrArg some (by kernel_rfl))
 f314:=Tryz.func248.trans (congrArg some (by kernel_rfl))
 t0:=Tryz.underlying0
 a0:=Tryz.isAgg0
 z0:=Tryz.sizeOf0
 v0:=Tryz.zeroValue0
 t3:=Tryz.underlying3
 a3:=Tryz.isAgg3
 z3:=Tryz.sizeOf3
 v3:=Tryz.zeroValue3
 t4:=Tryz.underlying4
 a4:=Tryz.isAgg4
 z4:=Tryz.sizeOf4
 v4:=Tryz.zeroValue4
 t5:=Tryz.underlying5
 a5:=Tryz.isAgg5
 z5:=Tryz.sizeOf5
 v5:=Tryz.zeroValue5
 t9:=Tryz.underlying9
 a9:=Tryz.isAgg9
 z9:=Tryz.sizeOf9
 v9:=Tryz.zeroValue9
 t21:=Tryz.underlying21
 a21:=Tryz.isAgg21
 z21:=Tryz.sizeOf21
 v21:=Tryz.zeroValue21
 t31:=Tryz.underlying26
 a31:=Tryz.isAgg26
 z31:=Tryz.sizeOf26
 v31:=Tryz.zeroValue26
 t46:=Tryz.underlying180
 a46:=Tryz.isAgg180
 z46:=Tryz.sizeOf180
 v46:=Tryz.zeroValue180
 t51:=Tryz.underlying238
 a51:=Tryz.isAgg238
 z51:=Tryz.sizeOf238
 v51:=Tryz.zeroValue238
 t105:=Tryz.underlying365
 a105:=Tryz.isAgg365
 z105:=Tryz.sizeOf365
 v105:=Tryz.zeroValue365
 t119:=Tryz.underlying233
 a119:=Tryz.isAgg233
 z119:=Tryz.sizeOf233
 t138:=Tryz.underlying404
 a138:=Tryz.isAgg404
 z138:=Tryz.sizeOf404
 v138:=Tryz.zeroValue404
 t139:=Tryz.underlying405
 a139:=Tryz.isAgg405
 z139:=Tryz.sizeOf405
 v139:=Tryz.zeroValue405
 t146:=Tryz.underlying239
 a146:=Tryz.isAgg239
 z146:=Tryz.sizeOf239
 v146:=Tryz.zeroValue239
 g1:=by kernel_rfl
 g3:=by kernel_rfl
 g4:=by kernel_rfl }
def Tryz.Ox:Go.Shelf.Ren:=⟨fun|156=>24|165=>59|166=>23|169=>28|240=>58|241=>103|276=>102|277=>152|n=>n,fun|31=>26|9=>9|3=>3|4=>4|0=>0|20=>20|72=>57|76=>60|70=>54|37=>55|75=>59|127=>109|164=>185|5=>5|80=>31|n=>n,fun|n=>n⟩
theorem Tryz.Xy:Go.Proofs.Lays.n156 Tryz.prog Tryz.Ox:={
 mixed:=by kernel_rfl
 f156:=Tryz.func24.trans (congrArg some (by kernel_rfl))
 f165:=Tryz.func59.trans (congrArg some (by kernel_rfl))
 f166:=Tryz.func23.trans (congrArg some (by kernel_rfl))
 f169:=Tryz.func28.trans (congrArg some (by kernel_rfl))
 f240:=Tryz.func58.trans (congrArg some (by kernel_rfl))
 f241:=Tryz.func103.trans (congrArg some (by kernel_rfl))
 f276:=Tryz.func102.trans (congrArg some (by kernel_rfl))
 f277:=Tryz.func152.trans (congrArg some (by kernel_rfl))
 t0:=Tryz.underlying0
 a0:=Tryz.isAgg0
 z0:=Tryz.sizeOf0
 v0:=Tryz.zeroValue0
 t3:=Tryz.underlying3
 a3:=Tryz.isAgg3
 z3:=Tryz.sizeOf3
 v3:=Tryz.zeroValue3
 t4:=Tryz.underlying4
 a4:=Tryz.isAgg4
 z4:=Tryz.sizeOf4
 v4:=Tryz.zeroValue4
 t9:=Tryz.underlying9
 a9:=Tryz.isAgg9
 z9:=Tryz.sizeOf9
 v9:=Tryz.zeroValue9
 t20:=Tryz.underlying20
 a20:=Tryz.isAgg20
 z20:=Tryz.sizeOf20
 v20:=Tryz.zeroValue20
 t31:=Tryz.underlying26
 a31:=Tryz.isAgg26
 z31:=Tryz.sizeOf26
 v31:=Tryz.zeroValue26
 t37:=Tryz.underlying55
 a37:=Tryz.isAgg55
 z37:=Tryz.sizeOf55
 v37:=Tryz.zeroValue55
 t70:=Tryz.underlying54
 a70:=Tryz.isAgg54
 z70:=Tryz.sizeOf54
 v70:=Tryz.zeroValue54
 t72:=Tryz.underlying57
 a72:=Tryz.isAgg57
 z72:=Tryz.sizeOf57
 v72:=Tryz.zeroValue57
 t75:=Tryz.underlying59
 a75:=Tryz.isAgg59
 z75:=Tryz.sizeOf59
 v75:=Tryz.zeroValue59
 t76:=Tryz.underlying60
 a76:=Tryz.isAgg60
 z76:=Tryz.sizeOf60
 v76:=Tryz.zeroValue60
 t127:=Tryz.underlying109
 a127:=Tryz.isAgg109
 z127:=Tryz.sizeOf109
 v127:=Tryz.zeroValue109
 t164:=Tryz.underlying185
 a164:=Tryz.isAgg185
 z164:=Tryz.sizeOf185
 v164:=Tryz.zeroValue185 }
def Tryz.Uq:Go.Shelf.Ren:=⟨fun|246=>146|283=>196|284=>197|285=>198|286=>199|129=>171|317=>244|318=>245|319=>246|320=>247|337=>286|338=>287|n=>n,fun|2=>2|3=>3|9=>9|4=>4|171=>297|0=>0|53=>241|37=>55|5=>5|173=>299|212=>362|51=>238|20=>20|213=>363|46=>180|232=>401|233=>402|n=>n,fun|17=>6|18=>7|19=>8|n=>n⟩
theorem Tryz.ed:Go.Proofs.LaysM.n246 Tryz.prog Tryz.Uq:={
 mixed:=by kernel_rfl
 f129:=Tryz.func171.trans (congrArg some (by kernel_rfl))
 f246:=Tryz.func146.trans (congrArg some (by kernel_rfl))
 f283:=Tryz.func196.trans (congrArg some (by kernel_rfl))
 f284:=Tryz.func197.trans (congrArg some (by kernel_rfl))
 f285:=Tryz.func198.trans (congrArg some (by kernel_rfl))
 f286:=Tryz.func199.trans (congrArg some (by kernel_rfl))
 f317:=Tryz.func244.trans (congrArg some (by kernel_rfl))
 f318:=Tryz.func245.trans (congrArg some (by kernel_rfl))
 f319:=Tryz.func246.trans (congrArg some (by kernel_rfl))
 f320:=Tryz.func247.trans (congrArg some (by kernel_rfl))
 f337:=Tryz.func286.trans (congrArg some (by kernel_rfl))
 f338:=Tryz.func287.trans (congrArg some (by kernel_rfl))
 t0:=Tryz.underlying0
 a0:=Tryz.isAgg0
 z0:=Tryz.sizeOf0
 v0:=Tryz.zeroValue0
 t2:=Tryz.underlying2
 a2:=Tryz.isAgg2
 z2:=Tryz.sizeOf2
 v2:=Tryz.zeroValue2
 t3:=Tryz.underlying3
 a3:=Tryz.isAgg3
 z3:=Tryz.sizeOf3
 v3:=Tryz.zeroValue3
 t4:=Tryz.underlying4
 a4:=Tryz.isAgg4
 z4:=Tryz.sizeOf4
 v4:=Tryz.zeroValue4
 t5:=Tryz.underlying5
 a5:=Tryz.isAgg5
 z5:=Tryz.sizeOf5
 v5:=Tryz.zeroValue5
 t9:=Tryz.underlying9
 a9:=Tryz.isAgg9
 z9:=Tryz.sizeOf9
 v9:=Tryz.zeroValue9
 t20:=Tryz.underlying20
 a20:=Tryz.isAgg20
 z20:=Tryz.sizeOf20
 v20:=Tryz.zeroValue20
 t37:=Tryz.underlying55
 a37:=Tryz.isAgg55
 z37:=Tryz.sizeOf55
 v37:=Tryz.zeroValue55
 t46:=Tryz.underlying180
 a46:=Tryz.isAgg180
 z46:=Tryz.sizeOf180
 v46:=Tryz.zeroValue180
 t51:=Tryz.underlying238
 a51:=Tryz.isAgg238
 z51:=Tryz.sizeOf238
 v51:=Tryz.zeroValue238
 t53:=Tryz.underlying241
 a53:=Tryz.isAgg241
 z53:=Tryz.sizeOf241
 v53:=Tryz.zeroValue241
 t171:=Tryz.underlying297
 a171:=Tryz.isAgg297
 z171:=Tryz.sizeOf297
 v171:=Tryz.zeroValue297
 t173:=Tryz.underlying299
 a173:=Tryz.isAgg299
 z173:=Tryz.sizeOf299
 v173:=Tryz.zeroValue299
 t212:=Tryz.underlying362
 a212:=Tryz.isAgg362
 z212:=Tryz.sizeOf362
 v212:=Tryz.zeroValue362
 t213:=Tryz.underlying363
 a213:=Tryz.isAgg363
 z213:=Tryz.sizeOf363
 t232:=Tryz.underlying401
 a232:=Tryz.isAgg401
 z232:=Tryz.sizeOf401
 v232:=Tryz.zeroValue401
 t233:=Tryz.underlying402
 a233:=Tryz.isAgg402
 z233:=Tryz.sizeOf402
 v233:=Tryz.zeroValue402
 g17:=by kernel_rfl
 g18:=by kernel_rfl
 g19:=by kernel_rfl
 i0:=by kernel_rfl
 i2:=by kernel_rfl
 i3:=by kernel_rfl
 i4:=by kernel_rfl
 i5:=by kernel_rfl
 i9:=by kernel_rfl
 i20:=by kernel_rfl
 i37:=by kernel_rfl
 i46:=by kernel_rfl
 i51:=by kernel_rfl
 i53:=by kernel_rfl
 i171:=by kernel_rfl
 i173:=by kernel_rfl
 i212:=by kernel_rfl
 i232:=by kernel_rfl
 i233:=by kernel_rfl
 m17:=by kernel_rfl
 m18:=by kernel_rfl
 m19:=by kernel_rfl }
open Go.RowKit Go.Lib in
theorem Tryz.stringslite_Index (s sub:ByteArray)(m:Int)(w:World)(hs:s.size<4294967281)(hm:w.cell? ⟨2,0,none⟩=some (.int .i64 m)) :
 Calls Tryz.prog 153 #[.string s,.string sub] w fun e w'=>e=.returned (.int .i64 (Lib.index s.data.toList sub.data.toList))/\w'=w:=Any.stringslite_Index Tryz.ek s sub m w hs hm
theorem Tryz.OC:Builder.Extra Tryz.prog Tryz.Oy:={
 sizeBuilder:=by kernel_rfl
 liesBuilder:=by kernel_rfl
 t5:=Tryz.underlying5
 a5:=Tryz.isAgg5
 z5:=Tryz.sizeOf5
 v5:=Tryz.zeroValue5
 infoByte:=by kernel_rfl
 cellsByte:=by kernel_rfl
 sizeByte:=by kernel_rfl
 neB5:=by decide }
open Go.RowKit Go.Lib in
theorem Tryz.strings_Repeat_main (s:ByteArray)(c:Nat)(w:World)(hc2:2<=c)(hc:c<=9223372036854775807)(hlen:s.size*c<=140737488355328)(h0:0<s.size) :
 Calls Tryz.prog 50 #[.string s,.int .i64 c] w fun e w'=>e=.returned (.string ⟨(Lib.repeatL s.data.toList c).toArray⟩)/\Below w.heap.size w w':=Any.strings_Repeat_main Tryz.Ph Tryz.OC s c w hc2 hc hlen h0
open Go.RowKit Go.Lib in
theorem Tryz.strings_Repeat_zero (s:ByteArray)(w:World) :
 Calls Tryz.prog 50 #[.string s,.int .i64 0] w fun e w'=>e=.returned (.string ⟨#[]⟩)/\w'=w:=Any.strings_Repeat_zero Tryz.Ph s w
open Go.RowKit Go.Lib in
theorem Tryz.strings_Repeat_one (s:ByteArray)(w:World) :
 Calls Tryz.prog 50 #[.string s,.int .i64 1] w fun e w'=>e=.returned (.string s)/\w'=w:=Any.strings_Repeat_one Tryz.Ph s w
open Go.RowKit Go.Lib in
theorem Tryz.strings_Repeat_empty (s:ByteArray)(c:Nat)(w:World)(hc2:2<=c)(hc:c<=9223372036854775807)(h0:s.size=0) :
 Calls Tryz.prog 50 #[.string s,.int .i64 c] w fun e w'=>e=.returned (.string ⟨#[]⟩)/\w'=w:=Any.strings_Repeat_empty Tryz.Ph s c w hc2 hc h0
theorem Tryz.Jk:Builder.Extra Tryz.prog Tryz.Ox:={
 sizeBuilder:=by kernel_rfl
 liesBuilder:=by kernel_rfl
 t5:=Tryz.underlying5
 a5:=Tryz.isAgg5
 z5:=Tryz.sizeOf5
 v5:=Tryz.zeroValue5
 infoByte:=by kernel_rfl
 cellsByte:=by kernel_rfl
 sizeByte:=by kernel_rfl
 neB5:=by decide }
open Go.RowKit Go.Lib in
theorem Tryz.strings_Split (s sep:ByteArray)(m:Int)(w:World)(hs:s.size<4294967281)(hm:w.cell? ⟨2,0,none⟩=some (.int .i64 m))(h1:1<=sep.size) :
 Calls Tryz.prog 105 #[.string s,.string sep] w fun e w'=>e=.returned (.slice (some ⟨w.heap.size,0,none⟩) (Lib.countB s sep+1) (Lib.countB s sep+1))/\w'=w.alloc (.cells ((Lib.splitB sep 0 (Lib.countB s sep) s).map Value.string).toArray 9):=Any.strings_Split Tryz.eu (by kernel_rfl) s sep m w hs hm h1
open Go.RowKit in
theorem Tryz.strings_Join_none (a:Option Addr)(c:Nat)(sep:ByteArray)(w:World) :
 Calls Tryz.prog 24 #[.slice a 0 c,.string sep] w fun e w'=>e=.returned (.string ⟨#[]⟩)/\w'=w:=Any.strings_Join_none Tryz.Xy Tryz.Jk a c sep w
open Go.RowKit in
theorem Tryz.strings_Join (bk o c:Nat)(xs:List ByteArray)(sep:ByteArray)(w:World)(hcells:∀(j:Nat) x,xs[j]? =some x->w.cell? ⟨bk,o+j,none⟩=some (.string x))(hbk:bk<w.heap.size)(hN:xs.length<=140737488355328)(hcap:xs.length<=c)(hlen:(Lib.join (xs.map (·.data.toList)) sep.data.toList).length<=140737488355328) :
 Calls Tryz.prog 24 #[.slice (some ⟨bk,o,none⟩) xs.length c,.string sep] w fun e w'=>e=.returned (.string ⟨(Lib.join (xs.map (·.data.toList)) sep.data.toList).toArray⟩)/\Below w.heap.size w w':=Any.strings_Join Tryz.Xy Tryz.Jk bk o c xs sep w hcells hbk hN hcap hlen
open Go.RowKit Go.Sort Go.Lib in
theorem Tryz.LM (n:Int)(h0:-9223372036854775808<=n)(h1:n<=9223372036854775807)(w:World)(htab:Lib.TabIs Tryz.prog w "internal/strconv.uint64pow10" .u64 Lib.pow10Tab) :
 Calls Tryz.prog 146 #[.int .i64 n,.int .i64 10] w fun e w'=>e=.returned (.string ⟨(Lib.itoa n).toArray⟩)/\∃k os,w'=grow (w.drewN k) os:=Any.internal_strconv_FormatInt_10 Tryz.ed n h0 h1 w htab
end Go.Proofs
end
section
namespace Go.Am
open Go Go.RowKit
theorem XV (c:UInt8):∀(s:List UInt8) (k:Nat),s.count c=k->Lib.splitK [c] 0 k s=splitOn c s
 |[],k,h=>by
  simp at h; subst h; rfl
 |b::l,k,h=>by
  by_cases e:b=c
  ·subst e
   rw[List.count_cons_self] at h
   subst h
   have ix:Lib.index (b::l) [b]=0:=by rw[Lib.index]; simp[List.isPrefixOf]
   rw[Lib.splitK,ix]
   simp[splitOn,XV b l _ rfl]
  ·have hp:([c]:List UInt8).isPrefixOf (b::l)=false:=by simp[List.isPrefixOf,Ne.symm e]
   have hix:Lib.index (b::l) [c]=if Lib.index l [c]==-1 then -1 else Lib.index l [c]+1:=by rw[Lib.index,hp]; simp
   have ih:=XV c l _ rfl
   rw[List.count_cons_of_ne (by simpa using e)] at h
   have hb:(b==c)=false:=by simpa using e
   by_cases hm:Lib.index l [c]=-1
   ·have h0:l.count c=0:=by rw[← Lib.count_one,Lib.count_miss hm]
    rw[h0] at ih h
    subst h
    rw[splitOn,hb,cond_false,← ih]; rfl
   ·have hge:=Lib.index_ge l [c]
    obtain⟨j,hj⟩:∃j:Nat,Lib.index l [c]=j:=⟨(Lib.index l [c]).toNat,by omega⟩
    have hix':Lib.index (b::l) [c]=((j+1:Nat):Int):=by rw[hix,if_neg (fun e=>hm (beq_iff_eq.1 e)),hj]; omega
    have hc:=Lib.count_one c l
    rw[Lib.count_hit (by simp) hj] at hc
    obtain⟨k',hk'⟩:∃k',k=k'+1:=⟨k-1,by omega⟩
    subst hk'
    rw[h] at ih
    rw[splitOn,hb,cond_false,← ih]
    have n1:¬(Lib.index (b::l) [c]==-1)=true:=fun e=>by have:=beq_iff_eq.1 e; omega
    have n2:¬(Lib.index l [c]==-1)=true:=fun e=>hm (beq_iff_eq.1 e)
    rw[Lib.splitK,Lib.splitK,if_neg n1,if_neg n2,hix',hj]
    simp
theorem Mq (sep:List UInt8):∀l:List (List UInt8),joined sep l=Lib.join l sep
 |[]=>rfl
 |[s]=>by rw[Lib.join_one]; rfl
 |s::y::l=>by
  rw[Lib.join_cons]
  have h:=Mq sep (y::l)
  rw[Lib.join_cons] at h
  show s++(sep++joined sep (y::l))=_
  rw[h]
  simp[Lib.joinTail,List.append_assoc]
theorem PE:∀{cs:List AV} {l:List (List UInt8)},strsOf cs=some l->cs=l.map AV.str
 |[],l,h=>by cases h; rfl
 |c::cs,l,h=>by
  unfold strsOf at h
  split at h
  ·rename_i heq; cases heq
  ·rename_i s cs' heq
   cases heq
   split at h
   ·rename_i l' hl
    cases h
    rw[List.map_cons,← PE hl]
   ·cases h
  ·cases h
section
variable {base:Nat}{w0:Start}{I:Cv}{μ:Mu}{st:St}{w:World}
theorem Zi (b:ByteArray):Ae I μ (.str b.data.toList) (.string b):=by
 have:b=⟨⟨b.data.toList⟩⟩:=by cases b with|mk d=>cases d; rfl
 conv=>arg 4; rw[this]
 exact .str _
theorem Qz:∀l:List ByteArray,Ah I μ (l.map fun b=>AV.str b.data.toList) (l.map Value.string)
 |[]=>.nil
 |b::l=>.cons _ _ _ _ (Zi b) (Qz l)
theorem ai (l:List ByteArray):One (l.map Value.string):=by
 intro v hv
 obtain⟨z,_,rfl⟩:=List.mem_map.1 hv
 rfl
theorem WO (l:List (List UInt8)):(l.map AV.str).flatMap AV.cells=l.map AV.str:=by
 induction l with
 |nil=>rfl
 |cons s l ih=>rw[List.map_cons,List.flatMap_cons,ih]; rfl
theorem Pz:∀{l:List (List UInt8)} {rvs:List Value},Ah I μ (l.map AV.str) rvs->rvs=l.map fun s=>Value.string ⟨⟨s⟩⟩
 |[],_,h=>by cases h; rfl
 |s::l,_,h=>by
  cases h with
  |cons _ rv _ rl h1 h2=>
   cases h1
   rw[Pz h2]; rfl
theorem Ux (k:IntKind):∀{l:List Int} {rvs:List Value},Ah I μ (l.map (AV.int k)) rvs->rvs=l.map (Value.int k)
 |[],_,h=>by cases h; rfl
 |s::l,_,h=>by
  cases h with
  |cons _ rv _ rl h1 h2=>
   cases h1
   rw[Ux k h2]; rfl
theorem WU (H:Ay base w0 I μ st w){n:Nat}{v:AV}{rv:Value}{cs:List AV}{l:List (List UInt8)}(hv:Ae I μ v rv)(hn:Bu v=some n)(hc:Au st.h 1 n v=some cs)(hl:strsOf cs=some l) :
 l.length=n/\∃a c,rv=.slice a n c/\(n=0∨∃bk o,a=some ⟨bk,o,none⟩/\n<=c/\∀(j:Nat) x,l[j]? =some x->w.cell? ⟨bk,o+j,none⟩=some (.string ⟨⟨x⟩⟩)):=by
 obtain rfl:=PE hl
 cases hv with
 |AB=>
  cases hn
  simp[Au,beq_eq] at hc
  subst hc
  exact⟨rfl,_,_,rfl,.inl rfl⟩
 |list tight sz xs r off cap rvs hI h1 hs hvs hcap htg=>
  cases hn
  simp only[Au,beq_eq,ble_eq,cond_eq_ite,Bool.and_eq_true,decide_eq_true_eq] at hc
  split at hc
  ·rename_i hb
   obtain⟨_,hb2⟩:=hb
   subst hb2
   rw[List.take_length] at hc
   have hc:=Option.some.inj hc
   rw[hc] at hvs
   have hlen:=IW xs hs
   rw[hc,List.length_map,Nat.mul_one] at hlen
   have hrv:=Pz hvs
   refine⟨hlen,_,_,rfl,.inr ⟨r,off,rfl,hcap,fun j x hj=>?_⟩⟩
   have hj':j<rvs.length:=by rw[hrv,List.length_map]; exact (List.getElem?_eq_some_iff.1 hj).1
   have e:=H.JZ _ _ _ (hI j hj')
   rw[e]
   congr 1
   have:rvs[j]? =some (Value.string ⟨⟨x⟩⟩):=by rw[hrv,List.getElem?_map,hj]; rfl
   rw[List.getElem?_eq_getElem hj'] at this
   exact Option.some.inj this
  ·cases hc
 |AU o off len cap pl ad rcap hμ hz ha hle hcap=>
  cases hn
  simp only[Au] at hc
  split at hc
  ·rename_i ty sz' cs' ext hf
   simp only[beq_eq,ble_eq,cond_eq_ite,Bool.and_eq_true,decide_eq_true_eq] at hc
   split at hc
   ·rename_i hb
    obtain⟨⟨hb1,hb2⟩,hb3⟩:=hb
    subst hb1
    rw[Nat.mul_one] at hb3
    have hc:=Option.some.inj hc
    obtain⟨pl',c,fz,rvs,g1,hplsz,hn,he,hw,hbb,hfz,hvr,hone,hcc⟩:=H.cells hf hμ
    rw[hμ] at g1; cases g1
    have hlr:=hvr.length
    have hl':=congrArg List.length hc
    rw[List.length_map,List.length_take,List.length_drop] at hl'
    have hd:=(hvr.drop off).take (n*1)
    rw[hc] at hd
    have hrv:=Pz hd
    refine⟨by omega,_,_,rfl,?_⟩
    by_cases hn0:n=0
    ·exact .inl hn0
    ·refine .inr ⟨pl.r,pl.b+off,by rw[ha.2 (by omega)],hle,fun j x hj=>?_⟩
     have hjl:=(List.getElem?_eq_some_iff.1 hj).1
     have:((rvs.drop off).take (n*1))[j]? =some (Value.string ⟨⟨x⟩⟩):=by rw[hrv,List.getElem?_map,hj]; rfl
     rw[List.getElem?_take_of_lt (by omega),List.getElem?_drop] at this
     rw[Cb hw,Nat.add_assoc,hcc (off+j) (by omega)]
     rw[List.getElem?_eq_getElem (by omega)] at this
     exact this
   ·cases hc
  ·cases hc
 |_=>cases hn
end
end Go.Am
end
section
namespace Go.Am
open Go Go.Proofs Go.RowKit
theorem QK (s:List UInt8):∀n,Lib.repeatL s n=repeated s n
 |0=>rfl
 |n+1=>by
  rw[repeated,← QK s n]; rfl
theorem fI:ME Tryz.prog GT 153 fun _=>hIndex:=by
 intro args v st hv base w0 I μ w rargs hG H hR
 dsimp only at hv
 unfold hIndex at hv
 split at hv
 ·rename_i s t
  rw[ble_eq,ble_eq,cond_eq_ite] at hv
  split at hv
  ·rename_i hle
   simp only[Bool.and_eq_true,decide_eq_true_eq] at hle
   cases hv
   cases hR with
   |cons _ r1 _ rl1 g1 q1=>
    cases q1 with
    |cons _ r2 _ rl2 g2 q2=>
     cases q2
     cases g1; cases g2
     refine⟨fun W=>JF Tryz.func153 rfl (by kernel_rfl) _ W,?_⟩
     obtain⟨m,hm⟩:=(hG 2 (.tuple []) rfl).1 rfl
     refine (Tryz.stringslite_Index ⟨⟨s⟩⟩ ⟨⟨t⟩⟩ m w (by show s.length<_; omega) (H.JZ 2 0 _ hm)).mono ?_
     rintro e w' ⟨rfl,rfl⟩
     exact⟨_,I,rfl,by rw[ZR]; exact .int _ _,H,Cv.le_refl I⟩
  ·cases hv
 ·cases hv
theorem jw:ME Tryz.prog GT 50 fun _=>hRepeat:=by
 intro args v st hv base w0 I μ w rargs hG H hR
 dsimp only at hv
 unfold hRepeat at hv
 split at hv
 ·rename_i s n
  rw[ble_eq,ble_eq,cond_eq_ite] at hv
  split at hv
  ·rename_i hle
   simp only[Bool.and_eq_true,decide_eq_true_eq] at hle
   cases hv
   cases hR with
   |cons _ r1 _ rl1 g1 q1=>
    cases q1 with
    |cons _ r2 _ rl2 g2 q2=>
     cases q2
     cases g1; cases g2
     refine⟨fun W=>JF Tryz.func50 rfl (by kernel_rfl) _ W,?_⟩
     by_cases h0:n=0
     ·subst h0
      refine (Tryz.strings_Repeat_zero ⟨⟨s⟩⟩ w).mono ?_
      rintro e w' ⟨rfl,rfl⟩
      exact⟨_,I,rfl,.str [],H,Cv.le_refl I⟩
     by_cases h1:n=1
     ·subst h1
      refine (Tryz.strings_Repeat_one ⟨⟨s⟩⟩ w).mono ?_
      rintro e w' ⟨rfl,rfl⟩
      have e1:repeated s 1=s:=by simp[repeated]
      exact⟨_,I,rfl,by rw[e1]; exact .str s,H,Cv.le_refl I⟩
     by_cases hs:s=[]
     ·subst hs
      refine (Tryz.strings_Repeat_empty ⟨⟨[]⟩⟩ n w (by omega) (by omega) rfl).mono ?_
      rintro e w' ⟨rfl,rfl⟩
      have e1:repeated ([]:List UInt8) n=[]:=by
       clear hle h0 h1
       induction n with
       |zero=>rfl
       |succ n ih=>rw[repeated,ih]; rfl
      exact⟨_,I,rfl,by rw[e1]; exact .str [],H,Cv.le_refl I⟩
     ·have hpos:0<s.length:=List.length_pos_iff.2 hs
      have hmul:s.length*n<=1000*1000:=Nat.mul_le_mul hle.1 hle.2
      refine (Tryz.strings_Repeat_main ⟨⟨s⟩⟩ n w (by omega) (by omega) (show s.length*n<=_ by omega) hpos).mono ?_
      rintro e w' ⟨rfl,hb⟩
      refine⟨_,I,rfl,?_,H.grown hb,Cv.le_refl I⟩
      rw[← QK]
      exact .str (Lib.repeatL s n)
  ·cases hv
 ·cases hv
theorem fM:ME Tryz.prog GT 24 hJoinM:=by
 intro args v st hv base w0 I μ w rargs hG H hR
 unfold hJoinM at hv
 split at hv
 ·rename_i v0 sep
  split at hv
  ·rename_i n hn
   split at hv
   ·rename_i cs hcs
    split at hv
    ·rename_i l hl
     rw[ble_eq,ble_eq,cond_eq_ite] at hv
     split at hv
     ·rename_i hle
      simp only[Bool.and_eq_true,decide_eq_true_eq] at hle
      cases hv
      cases hR with
      |cons _ r1 _ rl1 g1 q1=>
       cases q1 with
       |cons _ r2 _ rl2 g2 q2=>
        cases q2; cases g2
        obtain⟨e1,a,c,rfl,h2⟩:=WU H g1 hn hcs hl
        refine⟨fun W=>JF Tryz.func24 rfl (by kernel_rfl) _ W,?_⟩
        rcases h2 with rfl|⟨bk,o,rfl,h3,h4⟩
        ·refine (Tryz.strings_Join_none a c ⟨⟨sep⟩⟩ w).mono ?_
         rintro e w' ⟨rfl,rfl⟩
         have:l=[]:=List.length_eq_zero_iff.1 e1
         subst this
         exact⟨_,I,rfl,.str [],H,Cv.le_refl I⟩
        ·by_cases h0:n=0
         ·subst h0
          refine (Tryz.strings_Join_none _ c ⟨⟨sep⟩⟩ w).mono ?_
          rintro e w' ⟨rfl,rfl⟩
          have:l=[]:=List.length_eq_zero_iff.1 e1
          subst this
          exact⟨_,I,rfl,.str [],H,Cv.le_refl I⟩
         have hmap:(l.map fun x=>(⟨⟨x⟩⟩:ByteArray)).map (fun x=>x.data.toList)=l:=by rw[List.map_map]; simp[Function.comp_def]
         have hbk:bk<w.heap.size:=by
          obtain⟨x,hx⟩:∃x,l[0]? =some x:=⟨_,List.getElem?_eq_getElem (by omega)⟩
          exact World.block_lt_of_cell? _ _ (h4 0 x hx)
         have hc:=Tryz.strings_Join bk o c (l.map fun x=>⟨⟨x⟩⟩) ⟨⟨sep⟩⟩ w (fun j x hj=>by
          rw[List.getElem?_map] at hj
          cases hx:l[j]? with
          |none=>rw[hx] at hj; cases hj
          |some y=>rw[hx] at hj; cases hj; exact h4 j y hx) hbk (by rw[List.length_map]; omega) (by rw[List.length_map]; omega) (by rw[hmap]; show (Lib.join l sep).length<=_; rw[← Mq]; omega)
         rw[hmap,List.length_map,e1] at hc
         refine hc.mono ?_
         rintro e w' ⟨rfl,hb⟩
         refine⟨_,I,rfl,?_,H.grown hb,Cv.le_refl I⟩
         rw[← Mq]
         exact .str _
     ·cases hv
    ·cases hv
   ·cases hv
  ·cases hv
 ·cases hv
theorem fK:ME Tryz.prog GT 105 fun _=>hSplit:=by
 intro args v st hv base w0 I μ w rargs hG H hR
 dsimp only at hv
 unfold hSplit at hv
 split at hv
 ·rename_i s c
  rw[ble_eq,cond_eq_ite] at hv
  split at hv
  ·rename_i hle
   simp only[decide_eq_true_eq] at hle
   cases hv
   cases hR with
   |cons _ r1 _ rl1 g1 q1=>
    cases q1 with
    |cons _ r2 _ rl2 g2 q2=>
     cases q2; cases g1; cases g2
     refine⟨fun W=>JF Tryz.func105 rfl (by kernel_rfl) _ W,?_⟩
     obtain⟨m,hm⟩:=(hG 2 (.tuple []) rfl).1 rfl
     refine (Tryz.strings_Split ⟨⟨s⟩⟩ ⟨⟨[c]⟩⟩ m w (by show s.length<_; omega) (H.JZ 2 0 _ hm) (Nat.le_refl 1)).mono ?_
     rintro e w' ⟨rfl,rfl⟩
     obtain⟨B,hB⟩:∃B,Lib.splitB ⟨⟨[c]⟩⟩ 0 (Lib.countB ⟨⟨s⟩⟩ ⟨⟨[c]⟩⟩) ⟨⟨s⟩⟩=B:=⟨_,rfl⟩
     have hlen:=Lib.splitB_all ⟨⟨[c]⟩⟩ (Nat.le_refl 1) 0 _ ⟨⟨s⟩⟩ rfl
     have hdat:=Lib.splitB_data ⟨⟨[c]⟩⟩ 0 (Lib.countB ⟨⟨s⟩⟩ ⟨⟨[c]⟩⟩) ⟨⟨s⟩⟩
     have hcut:=XV c s (Lib.countB ⟨⟨s⟩⟩ ⟨⟨[c]⟩⟩) (Lib.count_one c s).symm
     rw[hB] at hlen hdat ⊢
     have hd2:B.map (fun b=>b.data.toList)=splitOn c s:=hdat.trans hcut
     obtain⟨K,k1,k2,k3⟩:=H.fresh (B.map Value.string).toArray 9
     refine⟨_,K,rfl,?_,k1,k2⟩
     have hm2:(splitOn c s).map AV.str=B.map fun b=>AV.str b.data.toList:=by rw[← hd2,List.map_map]; rfl
     have hl2:((splitOn c s).map AV.str).length=Lib.countB ⟨⟨s⟩⟩ ⟨⟨[c]⟩⟩+1:=by rw[hm2,List.length_map,hlen]
     have hcl:∀x∈(splitOn c s).map AV.str,x.cells.length=1:=fun x hx=>by
      obtain⟨y,_,rfl⟩:=List.mem_map.1 hx; rfl
     have R:=Ae.list (I:=K) (μ:=μ) false 1 ((splitOn c s).map AV.str) w.heap.size 0 (Lib.countB ⟨⟨s⟩⟩ ⟨⟨[c]⟩⟩+1) (B.map Value.string) (fun i hi=>by
      rw[Nat.zero_add]; exact k3 i (by simpa using hi)) (ai B) hcl (by rw[WO,hm2]; exact Qz B) (by omega) (fun h=>by cases h)
     rw[hl2] at R
     exact R
  ·cases hv
 ·cases hv
theorem il {I:Cv}{base:Nat}{w0:Start}{μ:Mu}{st:St}{w:World}(hG:DV GT I)(H:Ay base w0 I μ st w):Lib.TabIs Tryz.prog w "internal/strconv.uint64pow10" .u64 Lib.pow10Tab:=by
 obtain⟨ty,fz,rvs,h1,h2⟩:=(hG 6 _ rfl).2.2 Pg rfl (by intro h; exact absurd (congrArg List.length h) (by simp[Pg,Lib.pow10Tab]))
 have e:=Ux .u64 (h2 μ)
 have hw:=H.Dj _ _ h1
 unfold Lib.TabIs World.var?
 rw[jE,Option.bind_some,hw,← e]
theorem fJ:ME Tryz.prog GT 146 fun _=>hItoa:=by
 intro args v st hv base w0 I μ w rargs hG H hR
 dsimp only at hv
 unfold hItoa at hv
 split at hv
 ·rename_i n m
  rw[cond_eq_ite] at hv
  split at hv
  ·rename_i hle
   simp only[decide_eq_true_eq] at hle
   obtain⟨l1,l2,rfl⟩:=hle
   cases hv
   cases hR with
   |cons _ r1 _ rl1 g1 q1=>
    cases q1 with
    |cons _ r2 _ rl2 g2 q2=>
     cases q2; cases g1; cases g2
     refine⟨fun W=>JF Tryz.func146 rfl (by kernel_rfl) _ W,?_⟩
     refine (Tryz.LM n l1 l2 w (il hG H)).mono ?_
     rintro e w' ⟨rfl,k,os,rfl⟩
     exact⟨_,I,rfl,.str _,H.grown (Lib.below_grow _ w (Nat.le_refl _) k os),Cv.le_refl I⟩
  ·cases hv
 ·cases hv
theorem mh {f:Nat}{g:Heap->List AV->Option AV}(h:hookOf f=some g):ME Tryz.prog GT f g:=by
 unfold hookOf at h
 simp only[beq_eq,cond_eq_ite,decide_eq_true_eq] at h
 split at h
 ·rename_i q; subst q; cases h; exact fI
 split at h
 ·rename_i q; subst q; cases h; exact jw
 split at h
 ·rename_i q; subst q; cases h; exact fK
 split at h
 ·rename_i q; subst q; cases h; exact fM
 split at h
 ·rename_i q; subst q; cases h; exact fJ
 ·cases h
end Go.Am
end
