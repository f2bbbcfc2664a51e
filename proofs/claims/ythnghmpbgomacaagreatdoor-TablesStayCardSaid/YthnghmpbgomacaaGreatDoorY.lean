/- A part of tablesStay. -/
import Derived.Test.YthnghmpbgomacaaGreatDoorR0
import Derived.Test.YthnghmpbgomacaaGreatDoorR1
import Derived.Test.YthnghmpbgomacaaGreatDoorR2
import Derived.Test.YthnghmpbgomacaaGreatDoorR3
import Derived.Test.YthnghmpbgomacaaGreatDoorR4
import Derived.Test.YthnghmpbgomacaaGreatDoorR5
import Derived.Test.YthnghmpbgomacaaGreatDoorS
import Derived.Lib.Index
import Derived.ProofKit
import Derived.Shelf.LaysM
import Derived.Shelf.SlLaysF0
import Derived.Shelf.Strconv.Itoa3
import Derived.Shelf.Strings.OnBuilder
import Derived.Shelf.Strings.Repeat
import Derived.Shelf.Strings.Search1
import Derived.Shelf.Strings.Search2
import Derived.Shelf.Strings.Search3
set_option maxHeartbeats 1000000
namespace Go.Am
open Go Go.Proofs
theorem uU{f:Nat}{fn:DF}(h:codeOf f=some fn):f<336:=by
 unfold codeOf at h;rcases FU f 336 with a|a
 ·exact a
 ·rw[show Nat.blt f 336=false by rw[blt_eq];simp;omega]at h;cases h
theorem ADI{f:Nat}{fn:DF}(h:codeOf f=some fn):zV Tryz.prog X GT f fn:=by
 have g:=uU h;rcases FU f (60*1)with d|d
 ·exact LZ r0 (by omega) (by omega) h
 rcases FU f (60*2)with a|a
 ·exact LZ r1 (by omega) (by omega) h
 rcases FU f (60*3)with b|b
 ·exact LZ r2 (by omega) (by omega) h
 rcases FU f (60*4)with c|c
 ·exact LZ r3 (by omega) (by omega) h
 rcases FU f (60*5)with e|e
 ·exact LZ r4 (by omega) (by omega) h
 ·exact LZ r5 (by omega) (by omega) h
end Go.Am
namespace Go.Am
open Go
theorem ig(t:List UInt8):∀(s:List UInt8) (i:Nat),index.go t s i=bif Lib.index s t==-1 then -1 else Lib.index s t+i
 |[],i=>by unfold index.go Lib.index;cases t.isEmpty<;>simp
 |b::s,i=>by
  have h:=Lib.index_ge s t;unfold index.go Lib.index;rw[ig t s (i+1)];cases t.isPrefixOf (b::s)
  ·simp only[GA,Dn];by_cases h1:Lib.index s t=-1
   ·simp[h1]
   ·have a:(Lib.index s t==-1)=false:=Hy h1;have c:(Lib.index s t+1==-1)=false:=Hy (by omega);simp only[a,GA,Dn,c,Bj];omega
  ·simp
theorem uG(s t:List UInt8):index s t=Lib.index s t:=by
 unfold index;rw[ig];by_cases h:Lib.index s t=-1
 ·simp[h]
 ·have a:(Lib.index s t==-1)=false:=Hy h;simp[a]
end Go.Am
namespace Go.Proofs
open Go.Shelf
def Tryz.iN:Go.Shelf.Ren:=⟨fun|219=>226|217=>254|225=>255|224=>256|267=>257|266=>276|314=>277|n=>n,fun|9=>9|3=>3|4=>4|5=>5|46=>117|146=>198|51=>197|n=>n,fun|1=>1|n=>n⟩
theorem Tryz.AAd:Go.Proofs.Lays.n219 Tryz.prog Tryz.iN:={
 mixed:=by kernel_rfl
 f217:=Tryz.func254.trans (congrArg some (by kernel_rfl))
 f219:=Tryz.func226.trans (congrArg some (by kernel_rfl))
 f224:=Tryz.func256.trans (congrArg some (by kernel_rfl))
 f225:=Tryz.func255.trans (congrArg some (by kernel_rfl))
 f266:=Tryz.func276.trans (congrArg some (by kernel_rfl))
 f267:=Tryz.func257.trans (congrArg some (by kernel_rfl))
 f314:=Tryz.func277.trans (congrArg some (by kernel_rfl))
 t3:=Tryz.underlying3
 a3:=Tryz.isAgg3
 z3:=Tryz.sizeOf3
 v3:=Tryz.zeroValue3
 t4:=Tryz.underlying4
 a4:=Tryz.isAgg4
 z4:=Tryz.sizeOf4
 v4:=Tryz.zeroValue4
 t5:=Tryz.underlying5
 a5:=Tryz.isAgg5
 z5:=Tryz.sizeOf5
 v5:=Tryz.zeroValue5
 t9:=Tryz.underlying9
 a9:=Tryz.isAgg9
 z9:=Tryz.sizeOf9
 v9:=Tryz.zeroValue9
 t46:=Tryz.underlying117
 a46:=Tryz.isAgg117
 z46:=Tryz.sizeOf117
 v46:=Tryz.zeroValue117
 t51:=Tryz.underlying197
 a51:=Tryz.isAgg197
 z51:=Tryz.sizeOf197
 v51:=Tryz.zeroValue197
 t146:=Tryz.underlying198
 a146:=Tryz.isAgg198
 z146:=Tryz.sizeOf198
 v146:=Tryz.zeroValue198
 g1:=by kernel_rfl }
def Tryz.Wv:Go.Shelf.Ren:=⟨fun|105=>19|212=>45|99=>46|165=>47|166=>48|170=>49|169=>50|263=>85|264=>86|206=>87|240=>88|241=>89|276=>140|277=>141|n=>n,fun|9=>9|3=>3|4=>4|20=>20|0=>0|46=>117|109=>118|5=>5|72=>124|76=>128|51=>197|146=>198|53=>200|148=>201|70=>121|37=>122|75=>127|127=>203|164=>258|80=>131|n=>n,fun|n=>n⟩
theorem Tryz.Xe:Go.Proofs.Lays.n105 Tryz.prog Tryz.Wv:={
 mixed:=by kernel_rfl
 f99:=Tryz.func46.trans (congrArg some (by kernel_rfl))
 f105:=Tryz.func19.trans (congrArg some (by kernel_rfl))
 f165:=Tryz.func47.trans (congrArg some (by kernel_rfl))
 f166:=Tryz.func48.trans (congrArg some (by kernel_rfl))
 f169:=Tryz.func50.trans (congrArg some (by kernel_rfl))
 f170:=Tryz.func49.trans (congrArg some (by kernel_rfl))
 f206:=Tryz.func87.trans (congrArg some (by kernel_rfl))
 f212:=Tryz.func45.trans (congrArg some (by kernel_rfl))
 f240:=Tryz.func88.trans (congrArg some (by kernel_rfl))
 f241:=Tryz.func89.trans (congrArg some (by kernel_rfl))
 f263:=Tryz.func85.trans (congrArg some (by kernel_rfl))
 f264:=Tryz.func86.trans (congrArg some (by kernel_rfl))
 f276:=Tryz.func140.trans (congrArg some (by kernel_rfl))
 f277:=Tryz.func141.trans (congrArg some (by kernel_rfl))
 t0:=Tryz.underlying0
 a0:=Tryz.isAgg0
 z0:=Tryz.sizeOf0
 v0:=Tryz.zeroValue0
 t3:=Tryz.underlying3
 a3:=Tryz.isAgg3
 z3:=Tryz.sizeOf3
 v3:=Tryz.zeroValue3
 t4:=Tryz.underlying4
 a4:=Tryz.isAgg4
 z4:=Tryz.sizeOf4
 v4:=Tryz.zeroValue4
 t5:=Tryz.underlying5
 a5:=Tryz.isAgg5
 z5:=Tryz.sizeOf5
 v5:=Tryz.zeroValue5
 t9:=Tryz.underlying9
 a9:=Tryz.isAgg9
 z9:=Tryz.sizeOf9
 v9:=Tryz.zeroValue9
 t20:=Tryz.underlying20
 a20:=Tryz.isAgg20
 z20:=Tryz.sizeOf20
 v20:=Tryz.zeroValue20
 t37:=Tryz.underlying122
 a37:=Tryz.isAgg122
 z37:=Tryz.sizeOf122
 v37:=Tryz.zeroValue122
 t46:=Tryz.underlying117
 a46:=Tryz.isAgg117
 z46:=Tryz.sizeOf117
 v46:=Tryz.zeroValue117
 t51:=Tryz.underlying197
 a51:=Tryz.isAgg197
 z51:=Tryz.sizeOf197
 v51:=Tryz.zeroValue197
 t53:=Tryz.underlying200
 a53:=Tryz.isAgg200
 z53:=Tryz.sizeOf200
 v53:=Tryz.zeroValue200
 t70:=Tryz.underlying121
 a70:=Tryz.isAgg121
 z70:=Tryz.sizeOf121
 v70:=Tryz.zeroValue121
 t72:=Tryz.underlying124
 a72:=Tryz.isAgg124
 z72:=Tryz.sizeOf124
 v72:=Tryz.zeroValue124
 t75:=Tryz.underlying127
 a75:=Tryz.isAgg127
 z75:=Tryz.sizeOf127
 v75:=Tryz.zeroValue127
 t76:=Tryz.underlying128
 a76:=Tryz.isAgg128
 z76:=Tryz.sizeOf128
 v76:=Tryz.zeroValue128
 t109:=Tryz.underlying118
 a109:=Tryz.isAgg118
 z109:=Tryz.sizeOf118
 v109:=Tryz.zeroValue118
 t127:=Tryz.underlying203
 a127:=Tryz.isAgg203
 z127:=Tryz.sizeOf203
 v127:=Tryz.zeroValue203
 t146:=Tryz.underlying198
 a146:=Tryz.isAgg198
 z146:=Tryz.sizeOf198
 v146:=Tryz.zeroValue198
 t148:=Tryz.underlying201
 a148:=Tryz.isAgg201
 z148:=Tryz.sizeOf201
 v148:=Tryz.zeroValue201
 t164:=Tryz.underlying258
 a164:=Tryz.isAgg258
 z164:=Tryz.sizeOf258
 v164:=Tryz.zeroValue258 }
def Tryz.iM:Go.Shelf.Ren:=⟨fun|246=>284|283=>286|284=>287|285=>288|286=>289|129=>173|317=>290|318=>291|319=>292|320=>293|337=>294|338=>295|n=>n,fun|2=>2|3=>3|9=>9|4=>4|171=>400|0=>0|53=>200|37=>122|5=>5|173=>402|212=>405|51=>197|20=>20|213=>406|46=>117|232=>407|233=>408|n=>n,fun|17=>6|18=>7|19=>8|n=>n⟩
theorem Tryz.AAc:Go.Proofs.LaysM.n246 Tryz.prog Tryz.iM:={
 mixed:=by kernel_rfl
 f129:=Tryz.func173.trans (congrArg some (by kernel_rfl))
 f246:=Tryz.func284.trans (congrArg some (by kernel_rfl))
 f283:=Tryz.func286.trans (congrArg some (by kernel_rfl))
 f284:=Tryz.func287.trans (congrArg some (by kernel_rfl))
 f285:=Tryz.func288.trans (congrArg some (by kernel_rfl))
 f286:=Tryz.func289.trans (congrArg some (by kernel_rfl))
 f317:=Tryz.func290.trans (congrArg some (by kernel_rfl))
 f318:=Tryz.func291.trans (congrArg some (by kernel_rfl))
 f319:=Tryz.func292.trans (congrArg some (by kernel_rfl))
 f320:=Tryz.func293.trans (congrArg some (by kernel_rfl))
 f337:=Tryz.func294.trans (congrArg some (by kernel_rfl))
 f338:=Tryz.func295.trans (congrArg some (by kernel_rfl))
 t0:=Tryz.underlying0
 a0:=Tryz.isAgg0
 z0:=Tryz.sizeOf0
 v0:=Tryz.zeroValue0
 t2:=Tryz.underlying2
 a2:=Tryz.isAgg2
 z2:=Tryz.sizeOf2
 v2:=Tryz.zeroValue2
 t3:=Tryz.underlying3
 a3:=Tryz.isAgg3
 z3:=Tryz.sizeOf3
 v3:=Tryz.zeroValue3
 t4:=Tryz.underlying4
 a4:=Tryz.isAgg4
 z4:=Tryz.sizeOf4
 v4:=Tryz.zeroValue4
 t5:=Tryz.underlying5
 a5:=Tryz.isAgg5
 z5:=Tryz.sizeOf5
 v5:=Tryz.zeroValue5
 t9:=Tryz.underlying9
 a9:=Tryz.isAgg9
 z9:=Tryz.sizeOf9
 v9:=Tryz.zeroValue9
 t20:=Tryz.underlying20
 a20:=Tryz.isAgg20
 z20:=Tryz.sizeOf20
 v20:=Tryz.zeroValue20
 t37:=Tryz.underlying122
 a37:=Tryz.isAgg122
 z37:=Tryz.sizeOf122
 v37:=Tryz.zeroValue122
 t46:=Tryz.underlying117
 a46:=Tryz.isAgg117
 z46:=Tryz.sizeOf117
 v46:=Tryz.zeroValue117
 t51:=Tryz.underlying197
 a51:=Tryz.isAgg197
 z51:=Tryz.sizeOf197
 v51:=Tryz.zeroValue197
 t53:=Tryz.underlying200
 a53:=Tryz.isAgg200
 z53:=Tryz.sizeOf200
 v53:=Tryz.zeroValue200
 t171:=Tryz.underlying400
 a171:=Tryz.isAgg400
 z171:=Tryz.sizeOf400
 v171:=Tryz.zeroValue400
 t173:=Tryz.underlying402
 a173:=Tryz.isAgg402
 z173:=Tryz.sizeOf402
 v173:=Tryz.zeroValue402
 t212:=Tryz.underlying405
 a212:=Tryz.isAgg405
 z212:=Tryz.sizeOf405
 v212:=Tryz.zeroValue405
 t213:=Tryz.underlying406
 a213:=Tryz.isAgg406
 z213:=Tryz.sizeOf406
 t232:=Tryz.underlying407
 a232:=Tryz.isAgg407
 z232:=Tryz.sizeOf407
 v232:=Tryz.zeroValue407
 t233:=Tryz.underlying408
 a233:=Tryz.isAgg408
 z233:=Tryz.sizeOf408
 v233:=Tryz.zeroValue408
 g17:=by kernel_rfl
 g18:=by kernel_rfl
 g19:=by kernel_rfl
 i0:=by kernel_rfl
 i2:=by kernel_rfl
 i3:=by kernel_rfl
 i4:=by kernel_rfl
 i5:=by kernel_rfl
 i9:=by kernel_rfl
 i20:=by kernel_rfl
 i37:=by kernel_rfl
 i46:=by kernel_rfl
 i51:=by kernel_rfl
 i53:=by kernel_rfl
 i171:=by kernel_rfl
 i173:=by kernel_rfl
 i212:=by kernel_rfl
 i232:=by kernel_rfl
 i233:=by kernel_rfl
 m17:=by kernel_rfl
 m18:=by kernel_rfl
 m19:=by kernel_rfl }
def Tryz.fM:Go.Shelf.Ren:=⟨fun|6=>203|15=>118|14=>237|28=>172|29=>173|20=>264|21=>265|22=>266|23=>267|24=>268|25=>269|26=>270|27=>271|46=>280|47=>208|48=>209|49=>281|50=>282|57=>285|n=>n,fun|22=>135|24=>212|25=>315|3=>3|39=>117|0=>0|53=>197|55=>200|4=>4|46=>282|45=>281|50=>214|5=>5|9=>9|66=>318|70=>322|76=>358|77=>183|n=>n,fun|n=>n⟩
theorem Tryz.zz:Go.Proofs.SlLaysF0.n6 Tryz.prog Tryz.fM:={
 mixed:=by kernel_rfl
 f6:=⟨Tryz.f203.name,by decide,Tryz.func203.trans (congrArg some (by kernel_rfl))⟩
 f14:=⟨Tryz.f237.name,by decide,Tryz.func237.trans (congrArg some (by kernel_rfl))⟩
 f15:=Tryz.func118.trans (congrArg some (by kernel_rfl))
 f20:=⟨Tryz.f264.name,by decide,Tryz.func264.trans (congrArg some (by kernel_rfl))⟩
 f21:=⟨Tryz.f265.name,by decide,Tryz.func265.trans (congrArg some (by kernel_rfl))⟩
 f22:=⟨Tryz.f266.name,by decide,Tryz.func266.trans (congrArg some (by kernel_rfl))⟩
 f23:=⟨Tryz.f267.name,by decide,Tryz.func267.trans (congrArg some (by kernel_rfl))⟩
 f24:=⟨Tryz.f268.name,by decide,Tryz.func268.trans (congrArg some (by kernel_rfl))⟩
 f25:=⟨Tryz.f269.name,by decide,Tryz.func269.trans (congrArg some (by kernel_rfl))⟩
 f26:=⟨Tryz.f270.name,by decide,Tryz.func270.trans (congrArg some (by kernel_rfl))⟩
 f27:=⟨Tryz.f271.name,by decide,Tryz.func271.trans (congrArg some (by kernel_rfl))⟩
 f28:=Tryz.func172.trans (congrArg some (by kernel_rfl))
 f29:=Tryz.func173.trans (congrArg some (by kernel_rfl))
 f46:=⟨Tryz.f280.name,by decide,Tryz.func280.trans (congrArg some (by kernel_rfl))⟩
 f47:=Tryz.func208.trans (congrArg some (by kernel_rfl))
 f48:=Tryz.func209.trans (congrArg some (by kernel_rfl))
 f49:=⟨Tryz.f281.name,by decide,Tryz.func281.trans (congrArg some (by kernel_rfl))⟩
 f50:=⟨Tryz.f282.name,by decide,Tryz.func282.trans (congrArg some (by kernel_rfl))⟩
 f57:=⟨Tryz.f285.name,by decide,Tryz.func285.trans (congrArg some (by kernel_rfl))⟩
 t0:=Tryz.underlying0
 a0:=Tryz.isAgg0
 z0:=Tryz.sizeOf0
 v0:=Tryz.zeroValue0
 t3:=Tryz.underlying3
 a3:=Tryz.isAgg3
 z3:=Tryz.sizeOf3
 v3:=Tryz.zeroValue3
 t4:=Tryz.underlying4
 a4:=Tryz.isAgg4
 z4:=Tryz.sizeOf4
 v4:=Tryz.zeroValue4
 t5:=Tryz.underlying5
 a5:=Tryz.isAgg5
 z5:=Tryz.sizeOf5
 v5:=Tryz.zeroValue5
 t9:=Tryz.underlying9
 a9:=Tryz.isAgg9
 z9:=Tryz.sizeOf9
 v9:=Tryz.zeroValue9
 t22:=Tryz.underlying135
 a22:=Tryz.isAgg135
 z22:=Tryz.sizeOf135
 v22:=Tryz.zeroValue135
 t25:=Tryz.underlying315
 a25:=Tryz.isAgg315
 z25:=Tryz.sizeOf315
 v25:=Tryz.zeroValue315
 t39:=Tryz.underlying117
 a39:=Tryz.isAgg117
 z39:=Tryz.sizeOf117
 v39:=Tryz.zeroValue117
 t45:=Tryz.underlying281
 a45:=Tryz.isAgg281
 z45:=Tryz.sizeOf281
 v45:=Tryz.zeroValue281
 t46:=Tryz.underlying282
 a46:=Tryz.isAgg282
 z46:=Tryz.sizeOf282
 v46:=Tryz.zeroValue282
 t50:=Tryz.underlying214
 a50:=Tryz.isAgg214
 z50:=Tryz.sizeOf214
 v50:=Tryz.zeroValue214
 t53:=Tryz.underlying197
 a53:=Tryz.isAgg197
 z53:=Tryz.sizeOf197
 v53:=Tryz.zeroValue197
 t55:=Tryz.underlying200
 a55:=Tryz.isAgg200
 z55:=Tryz.sizeOf200
 v55:=Tryz.zeroValue200
 t66:=Tryz.underlying318
 a66:=Tryz.isAgg318
 z66:=Tryz.sizeOf318
 v66:=Tryz.zeroValue318
 t70:=Tryz.underlying322
 a70:=Tryz.isAgg322
 z70:=Tryz.sizeOf322
 v70:=Tryz.zeroValue322
 t76:=Tryz.underlying358
 a76:=Tryz.isAgg358
 z76:=Tryz.sizeOf358
 v76:=Tryz.zeroValue358
 t77:=Tryz.underlying183
 a77:=Tryz.isAgg183
 z77:=Tryz.sizeOf183
 v77:=Tryz.zeroValue183 }
open Go.RowKit Go.Lib in
theorem Tryz.stringslite_Index(s a:ByteArray)(m:Int)(w:World)(d:s.size<4294967281)(b:w.cell? ⟨1,0,none⟩=some (.int .i64 m)) :
 Calls Tryz.prog 226 #[.string s,.string a] w fun e c=>e=.returned (.int .i64 (Lib.index s.data.toList a.data.toList))/\c=w:=Any.stringslite_Index Tryz.AAd s a m w d b
theorem Tryz.VY:Builder.Extra Tryz.prog Tryz.Wv:={
 sizeBuilder:=by kernel_rfl
 liesBuilder:=by kernel_rfl
 t5:=Tryz.underlying5
 a5:=Tryz.isAgg5
 z5:=Tryz.sizeOf5
 v5:=Tryz.zeroValue5
 infoByte:=by kernel_rfl
 cellsByte:=by kernel_rfl
 sizeByte:=by kernel_rfl
 neB5:=by decide }
open Go.RowKit Go.Lib in
theorem Tryz.strings_Repeat_main(s:ByteArray)(c:Nat)(w:World)(b:2<=c)(g:c<=9223372036854775807)(a:s.size*c<=140737488355328)(f:0<s.size) :
 Calls Tryz.prog 19 #[.string s,.int .i64 c] w fun e d=>e=.returned (.string ⟨(Lib.repeatL s.data.toList c).toArray⟩)/\Below w.heap.size w d:=Any.strings_Repeat_main Tryz.Xe Tryz.VY s c w b g a f
open Go.RowKit Go.Lib in
theorem Tryz.strings_Repeat_zero(s:ByteArray)(w:World) :
 Calls Tryz.prog 19 #[.string s,.int .i64 0] w fun e a=>e=.returned (.string ⟨#[]⟩)/\a=w:=Any.strings_Repeat_zero Tryz.Xe s w
open Go.RowKit Go.Lib in
theorem Tryz.strings_Repeat_one(s:ByteArray)(w:World) :
 Calls Tryz.prog 19 #[.string s,.int .i64 1] w fun e a=>e=.returned (.string s)/\a=w:=Any.strings_Repeat_one Tryz.Xe s w
open Go.RowKit Go.Lib in
theorem Tryz.strings_Repeat_empty(s:ByteArray)(c:Nat)(w:World)(a:2<=c)(f:c<=9223372036854775807)(d:s.size=0) :
 Calls Tryz.prog 19 #[.string s,.int .i64 c] w fun e b=>e=.returned (.string ⟨#[]⟩)/\b=w:=Any.strings_Repeat_empty Tryz.Xe s c w a f d
open Go.RowKit Go.Sort Go.Lib in
theorem Tryz.Rl(n:Int)(f:-9223372036854775808<=n)(d:n<=9223372036854775807)(w:World)(a:Lib.TabIs Tryz.prog w "internal/strconv.uint64pow10" .u64 Lib.pow10Tab) :
 Calls Tryz.prog 284 #[.int .i64 n,.int .i64 10] w fun e b=>e=.returned (.string ⟨(Lib.itoa n).toArray⟩)/\∃k c,b=grow (w.drewN k) c:=Any.internal_strconv_FormatInt_10 Tryz.AAc n f d w a
end Go.Proofs
namespace Go.Am
open Go Go.Proofs Go.RowKit Go.Lib Go.Sort
abbrev Ni:={ p:Place // Vl p=true }
instance:Inhabited Ni:=⟨⟨(0,0),rfl⟩⟩
def PT(x:Ni):List AV:=Bh x.1
def dz(x:Ni):List Value:=[.int .i64 x.1.1,.int .i64 (x.1.2:Int)]
def jc(x y:Ni):Int:=if x.1.1=y.1.1 then (x.1.2:Int)-(y.1.2:Int) else x.1.1-y.1.1
def Vs(x y:Ni):Bool:=Iz x.1 y.1
theorem qA{p:Place}(h:Vl p=true):-1000001<=p.1/\p.1<=1000000/\p.2<=1000000:=by
 obtain⟨r,d⟩:=p;unfold Vl at h;rw[Aq]at h;obtain⟨c,b⟩:=h;have a:d<=1000000:=ND c;cases r with
 |ofNat n=>
  have e:n<=1000000:=ND b;refine⟨?_,?_,a⟩
  ·show -1000001<=(n:Int);omega
  ·show (n:Int)<=1000000;omega
 |negSucc n=>
  have e:n<=1000000:=ND b;refine⟨?_,?_,a⟩
  ·show -1000001<=Int.negSucc n;omega
  ·show Int.negSucc n<=1000000;omega
theorem qC:ltOf jc=Vs:=by
 funext x y;obtain⟨⟨a,b⟩,f⟩:=x;obtain⟨⟨c,d⟩,e⟩:=y;simp only[ltOf,jc,Vs,Iz];by_cases h:a=c
 ·subst h;rw[AX rfl];have:Nat.blt b d=decide (b<d):=blt_eq b d;rw[this];simp;omega
 ·rw[AJ h];simp[h];omega
theorem iB:MR (ltOf jc):=by
 rw[qC];refine⟨fun x=>?_,fun x y z=>?_,fun x y=>?_⟩
 ·simp[Vs,Iz,blt_eq]
 ·simp only[Vs,Iz,blt_eq,FO,Aq,Aw];omega
 ·obtain⟨⟨a,b⟩,l⟩:=x;obtain⟨⟨c,d⟩,g⟩:=y;simp only[Vs,Iz,blt_eq,Bool.or_eq_false_iff,Bool.and_eq_false_imp,Aw,Ji,Subtype.mk.injEq,JL];rintro⟨i,e⟩ ⟨j,f⟩;have:a=c:=by omega
  have h:=e this;have k:=f this.symm;exact⟨this,by omega⟩
theorem oL(a c b d r:Int)(m:-9000000<=a/\a<=9000000)(k:-9000000<=c/\c<=9000000)(n:0<=b/\b<=9000000)(l:0<=d/\d<=9000000)(j:a=c->r=b-d)(g:a≠c->r=a-c)(W:World):Calls Tryz.prog 204 #[.agg #[.int .i64 a,.int .i64 b],.agg #[.int .i64 c,.int .i64 d]] W fun e i=>e=.returned (.int .i64 r)/\∃q f,i=Go.Sort.grow (W.drewN q) f:=by
 go_enter Tryz.func204,Tryz.ntmps204;go_wp2
 ·go_ret;rename_i h;exact⟨by rw[g (by simpa using h)];rfl,0,_,by rw[alloc_eq_grow,alloc_eq_grow,grow_grow];rfl⟩
 ·go_ret;rename_i h;exact⟨by rw[j (by simpa using h)];rfl,0,_,by rw[alloc_eq_grow,alloc_eq_grow,grow_grow];rfl⟩
theorem ADJ(x y:Ni)(W:World):Calls Tryz.prog 204 (#[.agg (dz x).toArray,.agg (dz y).toArray]++#[]) W fun e b=>e=.returned (.int .i64 (jc x y))/\∃q a,b=Go.Sort.grow (W.drewN q) a:=by
 have d:=qA x.2;have c:=qA y.2;refine oL x.1.1 y.1.1 (x.1.2:Int) (y.1.2:Int) (jc x y) ⟨by omega,by omega⟩ ⟨by omega,by omega⟩ ⟨by omega,by omega⟩ ⟨by omega,by omega⟩ (fun h=>?_) (fun h=>?_) W
 ·unfold jc;rw[AX h]
 ·unfold jc;rw[AJ h]
def oF(cs:List AV):Option (List Ni):=match Te cs with
 |some xs=>if h:∀p∈xs,Vl p=true then some (xs.attachWith _ h) else none
 |none=>none
def wX(f:Nat)(fv:AV):Option (Ni->Ni->Bool):=match Lt f fv with
 |some _=>some Vs
 |none=>none
theorem QE:∀{cs a},KU cs=some a->cs=a.flatMap Bh/\∀p∈a,Vl p=true
 |[],a,h=>by cases h;exact⟨rfl,by simp⟩
 |.int .i64 r::.int .i64 (.ofNat d)::l,a,h=>by
  simp only[KU]at h;rw[Ad]at h;split at h
  ·rename_i e;split at h
   ·rename_i j f;cases h;obtain⟨g,i⟩:=QE f;refine⟨by rw[Cn,←g];rfl,fun p b=>?_⟩;rcases BK.1 b with rfl|b
    ·exact e
    ·exact i p b
   ·cases h
  ·cases h
 |.int .i64 r::.int .i64 (.negSucc d)::l,a,h=>by simp[KU]at h
 |[x],a,h=>by unfold KU at h;split at h<;>first|(cases h;done)|simp_all
 |x::y::l,a,h=>by
  unfold KU at h;split at h
  ·simp_all
  ·rename_i r d k c;simp only[Lg]at c;obtain⟨rfl,rfl,rfl⟩:=c;rw[Ad]at h;split at h
   ·rename_i e;split at h
    ·rename_i j f;cases h;obtain⟨g,i⟩:=QE f;refine⟨by rw[Cn,←g];rfl,fun p b=>?_⟩;rcases BK.1 b with rfl|b
     ·exact e
     ·exact i p b
    ·cases h
   ·cases h
  ·cases h
theorem jV{cs xs}(h:Te cs=some xs):cs.length<=2000000/\cs=xs.flatMap Bh/\∀p∈xs,Vl p=true:=by
 unfold Te at h;rw[Ad]at h;split at h
 ·rename_i a;exact⟨ND a,QE h⟩
 ·cases h
theorem AA5{cs xs}(h:Te cs=some xs):∃b,oF cs=some b/\b.map (·.1)=xs:=by
 have a:=(jV h).2.2;refine⟨xs.attachWith _ a,?_,?_⟩
 ·unfold oF;rw[h];simp only;rw[dif_pos a]
 ·simp;exact List.attach_map_subtype_val xs
theorem qV{cs ys}(h:oF cs=some ys):cs.length<=2000000/\cs=ys.flatMap PT:=by
 unfold oF at h;split at h
 ·rename_i a e;split at h
  ·rename_i b;cases h;obtain⟨c,d,_⟩:=jV e;refine⟨c,d.trans ?_⟩;have:(a.attachWith _ b).flatMap PT=((a.attachWith _ b).map (·.1)).flatMap Bh:=by rw[Ll];rfl
   rw[this];simp;exact Ot (List.flatMap Bh) (List.attach_map_subtype_val a).symm
  ·cases h
 ·cases h
theorem ic(x:Ni):∀l:List Ni,(Yt Vs x l).map (·.1)=Yt Iz x.1 (l.map (·.1))
 |[]=>rfl
 |y::l=>by
  rw[Yt,Dh,Yt];show List.map _ (bif Iz y.1 x.1 then _ else _)=_;cases Iz y.1 x.1 with
  |true=>rw[Ba,Ba,Dh,ic x l]
  |false=>rfl
theorem aK:∀l:List Ni,(Hl Vs l).map (·.1)=Hl Iz (l.map (·.1))
 |[]=>rfl
 |x::l=>by rw[Hl,ic,aK l];rfl
theorem ADA{f:Nat}{d:St}{args:List AV}{r:AV×St}(h:JY 2 Te Bh (Lt f) d args=some r):JY 2 oF PT (wX f) d args=some r:=by
 unfold JY at h⊢;split at h
 ·rename_i s p;split at h
  ·rename_i n a;have e:wX f p=some Vs:=by unfold wX;rw[a]
   rw[e];have i:n=Iz:=by
    unfold Lt at a;split at a
    ·rw[Ad]at a;split at a
     ·cases a;rfl
     ·cases a
    ·cases a
   subst i;simp only;split at h
   ·exact h
   ·rename_i o g len cap;cases hz:Nat.beq len 0 with
    |true=>rw[hz]at h;exact h
    |false=>
     rw[hz]at h;rw[Bj]at h⊢;split at h
     ·rename_i t k;split at h
      ·rename_i j b;obtain⟨c,l,q⟩:=AA5 b;have m:(Hl Vs c).flatMap PT=(Hl Iz j).flatMap Bh:=by
        have:(Hl Vs c).flatMap PT=((Hl Vs c).map (·.1)).flatMap Bh:=by rw[Ll];rfl
        rw[this,aK,q]
       simp only[l,m];exact h
      ·cases h
     ·cases h
   ·cases h
  ·cases h
 ·cases h
theorem og:Ph 2 oF PT dz where
 back h:=(qV h).2
 len _:=rfl
 one x v hv:=by simp only[dz,BK,Ju,Jp]at hv;rcases hv with rfl|rfl<;>rfl
 rel I μ x:=.cons _ _ _ _ (.int _ _) (.cons _ _ _ _ (.int _ _) .nil)
 inv I μ x rv h:=by
  unfold PT Bh at h;cases h with
  |cons _ _ _ _ b t=>
   cases t with
   |cons _ _ _ _ a t=>cases t;cases b;cases a;rfl
theorem fJ:TJ Tryz.prog GT 203 (JY 2 Te Bh (Lt 204)):=by
 have key:TJ Tryz.prog GT 203 (JY 2 oF PT (wX 204)):=by
  refine fK (by omega) og (fun args W=>OB Tryz.func203 rfl (by kernel_rfl) args W) (fun h=>?_) (fun z l a base L I μ d w F O H u=>?_)
  ·obtain⟨P,n⟩:=qV h;have:=og.lens;rename_i D c;have i:=this c;rw[←n]at i;omega
  ·have o:∃g,z=.fn (.func g) [] []/\g=204/\l=Vs:=by
    unfold wX at a;split at a
    ·rename_i p h;cases a;unfold Lt at h;split at h
     ·rename_i g;rw[beq_eq,Ad]at h;split at h
      ·rename_i e;exact⟨g,rfl,by simpa using e,rfl⟩
      ·cases h
     ·cases h
    ·cases a
   obtain⟨g,rfl,rfl,rfl⟩:=o;cases u with
   |fn _ _ _ A N t j=>cases t;cases j;rw[←qC];exact ll Tryz.zz (by omega) Tryz.isAgg212 Tryz.sizeOf212 (fun _=>rfl) og.one jc iB 204 #[] (fun args W=>OB Tryz.func204 rfl (by kernel_rfl) args W) w (fun k q c K f m B J r x y=>ADJ x y _)
 intro args v d b s;exact key args v d b (ADA s)
end Go.Am
namespace Go.Am
open Go Go.RowKit
theorem iY{I:HY}{μ:Mu}(k:IntKind):∀{l:List Int} {a:List Value},BR I μ (l.map (AV.int k)) a->a=l.map (Value.int k)
 |[],_,h=>by cases h;rfl
 |s::l,_,h=>by
  cases h with
  |cons _ e _ d c b=>cases c;rw[iY k b];rfl
end Go.Am
namespace Go.Am
open Go Go.Proofs Go.RowKit
theorem YR(s:List UInt8):∀n,Lib.repeatL s n=repeated s n
 |0=>rfl
 |n+1=>by rw[repeated,←YR s n];rfl
theorem AAk:Zc Tryz.prog GT 226 fun _=>hIndex:=by
 intro args v r a base q I μ w b g H k;dsimp only at a;unfold hIndex at a;split at a
 ·rename_i s t;rw[ble_eq,ble_eq,Ad]at a;split at a
  ·rename_i c;simp only[Aq,Aw]at c;cases a;cases k with
   |cons _ p _ j d l=>
    cases l with
    |cons _ u _ f i n=>cases n;cases d;cases i;refine⟨fun W=>OB Tryz.func226 rfl (by kernel_rfl) _ W,?_⟩;obtain⟨m,h⟩:=(g 1 (.tuple []) rfl).1 rfl;refine (Tryz.stringslite_Index ⟨⟨s⟩⟩ ⟨⟨t⟩⟩ m w (by show s.length<_;omega) (H.PM 1 0 _ h)).mono ?_;rintro e o ⟨rfl,rfl⟩;exact⟨_,I,rfl,by rw[uG];exact .int _ _,H,HY.le_refl I⟩
  ·cases a
 ·cases a
theorem ADB:Zc Tryz.prog GT 19 fun _=>hRepeat:=by
 intro args v y b base u I μ w g x H p;dsimp only at b;unfold hRepeat at b;split at b
 ·rename_i s n;rw[ble_eq,ble_eq,Ad]at b;split at b
  ·rename_i a;simp only[Aq,Aw]at a;cases b;cases p with
   |cons _ t _ m i q=>
    cases q with
    |cons _ z _ j l r=>
     cases r;cases i;cases l;refine⟨fun W=>OB Tryz.func19 rfl (by kernel_rfl) _ W,?_⟩;by_cases h0:n=0
     ·subst h0;refine (Tryz.strings_Repeat_zero ⟨⟨s⟩⟩ w).mono ?_;rintro e d ⟨rfl,rfl⟩;exact⟨_,I,rfl,.str [],H,HY.le_refl I⟩
     by_cases h1:n=1
     ·subst h1;refine (Tryz.strings_Repeat_one ⟨⟨s⟩⟩ w).mono ?_;rintro e d ⟨rfl,rfl⟩;have f:repeated s 1=s:=by simp[repeated]
      exact⟨_,I,rfl,by rw[f];exact .str s,H,HY.le_refl I⟩
     by_cases hs:s=[]
     ·subst hs;refine (Tryz.strings_Repeat_empty ⟨⟨[]⟩⟩ n w (by omega) (by omega) rfl).mono ?_;rintro e d ⟨rfl,rfl⟩;have f:repeated ([]:List UInt8) n=[]:=by
       clear a h0 h1;induction n with
       |zero=>rfl
       |succ n o=>rw[repeated,o];rfl
      exact⟨_,I,rfl,by rw[f];exact .str [],H,HY.le_refl I⟩
     ·have c:0<s.length:=List.length_pos_iff.2 hs;have h:s.length*n<=1000*1000:=QO a.1 a.2;refine (Tryz.strings_Repeat_main ⟨⟨s⟩⟩ n w (by omega) (by omega) (show s.length*n<=_ by omega) c).mono ?_;rintro e d ⟨rfl,k⟩;refine⟨_,I,rfl,?_,H.grown k,HY.le_refl I⟩;rw[←YR];exact .str (Lib.repeatL s n)
  ·cases b
 ·cases b
theorem ACJ{I:HY}{base:Nat}{f:Start}{μ:Mu}{i:St}{w:World}(g:Ht GT I)(H:CQ base f I μ i w):Lib.TabIs Tryz.prog w "internal/strconv.uint64pow10" .u64 Lib.pow10Tab:=by obtain⟨k,j,b,d,c⟩:=(g 6 _ rfl).2.2 Xb rfl (by intro h;exact absurd (Ot List.length h) (by simp[Xb,Lib.pow10Tab]));have e:=iY .u64 (c μ);have a:=H.Iy _ _ d;unfold Lib.TabIs World.var?;rw[ADF,Option.bind_some,a,←e]
theorem AAl:Zc Tryz.prog GT 284 fun _=>hItoa:=by
 intro args v x a base u I μ w c g H l;dsimp only at a;unfold hItoa at a;split at a
 ·rename_i n m;rw[Ad]at a;split at a
  ·rename_i b;simp only[Aw]at b;obtain⟨j,o,rfl⟩:=b;cases a;cases l with
   |cons _ t _ p d q=>
    cases q with
    |cons _ y _ f h r=>cases r;cases d;cases h;refine⟨fun W=>OB Tryz.func284 rfl (by kernel_rfl) _ W,?_⟩;refine (Tryz.Rl n j o w (ACJ g H)).mono ?_;rintro e s ⟨rfl,k,i,rfl⟩;exact⟨_,I,rfl,.str _,H.grown (Lib.below_grow _ w (Ao _) k i),HY.le_refl I⟩
  ·cases a
 ·cases a
theorem AFq{f:Nat}{g:St->List AV->Option (AV×St)}(h:hookOf f=some g):TJ Tryz.prog GT f g:=by
 unfold hookOf at h;simp only[beq_eq,Ad,Aw]at h;split at h
 ·rename_i q;subst q;cases h;exact AAk.m
 split at h
 ·rename_i q;subst q;cases h;exact ADB.m
 split at h
 ·rename_i q;subst q;cases h;exact AAl.m
 split at h
 ·rename_i q;subst q;cases h;exact fJ
 ·cases h
end Go.Am
