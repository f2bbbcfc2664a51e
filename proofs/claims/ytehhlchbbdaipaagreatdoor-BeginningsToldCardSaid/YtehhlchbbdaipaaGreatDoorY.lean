/- A part of the proof of beginningsTold (merged by a program). -/
import Derived.Test.YtehhlchbbdaipaaGreatDoorX
import Derived.Test.YtehhlchbbdaipaaGreatDoorR0
import Derived.Test.YtehhlchbbdaipaaGreatDoorR1
import Derived.Test.YtehhlchbbdaipaaGreatDoorR2
import Derived.Test.YtehhlchbbdaipaaGreatDoorR3
import Derived.Test.YtehhlchbbdaipaaGreatDoorR4
import Derived.Test.YtehhlchbbdaipaaGreatDoorR5
import Derived.Test.YtehhlchbbdaipaaGreatDoorR6
import Derived.Test.YtehhlchbbdaipaaGreatDoorE
import Derived.Lib.Index
import Derived.Shelf.LaysM
import Derived.Shelf.Strings.Repeat
import Derived.Shelf.Strings.Search1
import Derived.Shelf.Strings.Search2
import Derived.Shelf.Strings.Search3
import Derived.Test.YtehhlchbbdaipaaGreatDoorProg
section
namespace Go.Am
open Go Go.Proofs
theorem fQ {f:Nat}{fn:Bh}(h:codeOf f=some fn):f<389:=by
 unfold codeOf at h
 rcases Nat.lt_or_ge f 389 with h1|h1
 ·exact h1
 ·rw[show Nat.blt f 389=false by rw[blt_eq]; simp; omega] at h
  cases h
theorem rD {f:Nat}{fn:Bh}(h:codeOf f=some fn):kV Tryz.prog X GT f fn:=by
 have hf:=fQ h
 rcases Nat.lt_or_ge f (60*1) with h1|h1
 ·exact Gd r0 (by omega) (by omega) h
 rcases Nat.lt_or_ge f (60*2) with h2|h2
 ·exact Gd r1 (by omega) (by omega) h
 rcases Nat.lt_or_ge f (60*3) with h3|h3
 ·exact Gd r2 (by omega) (by omega) h
 rcases Nat.lt_or_ge f (60*4) with h4|h4
 ·exact Gd r3 (by omega) (by omega) h
 rcases Nat.lt_or_ge f (60*5) with h5|h5
 ·exact Gd r4 (by omega) (by omega) h
 rcases Nat.lt_or_ge f (60*6) with h6|h6
 ·exact Gd r5 (by omega) (by omega) h
 ·exact Gd r6 (by omega) (by omega) h
end Go.Am
end
namespace Go.Am
open Go
theorem XY (t:List UInt8):∀(s:List UInt8) (i:Nat),index.go t s i=bif Lib.index s t==-1 then -1 else Lib.index s t+i
 |[],i=>by
  unfold index.go Lib.index
  cases t.isEmpty <;> simp
 |b::s,i=>by
  have h:=Lib.index_ge s t
  unfold index.go Lib.index
  rw[XY t s (i+1)]
  cases t.isPrefixOf (b::s)
  ·simp only[Bool.false_eq_true,if_false]
   by_cases h1:Lib.index s t=-1
   ·simp[h1]
   ·have h2:(Lib.index s t==-1)=false:=beq_false_of_ne h1
    have h3:(Lib.index s t+1==-1)=false:=beq_false_of_ne (by omega)
    simp only[h2,Bool.false_eq_true,if_false,h3,cond_false]
    omega
  ·simp
theorem eu (s t:List UInt8):index s t=Lib.index s t:=by
 unfold index
 rw[XY]
 by_cases h:Lib.index s t=-1
 ·simp[h]
 ·have h2:(Lib.index s t==-1)=false:=beq_false_of_ne h
  simp[h2]
end Go.Am
section
namespace Go.Proofs
open Go.Shelf
def Tryz.XQ:Go.Shelf.Ren:=⟨fun|219=>255|217=>174|225=>287|224=>288|267=>289|266=>223|314=>319|n=>n,fun|9=>9|3=>3|4=>4|5=>5|46=>145|146=>206|51=>205|n=>n,fun|1=>1|n=>n⟩
theorem Tryz.mF:Go.Proofs.Lays.n219 Tryz.prog Tryz.XQ:={
 mixed:=by kernel_rfl
 f217:=Tryz.func174.trans (congrArg some (by kernel_rfl))
 f219:=Tryz.func255.trans (congrArg some (by kernel_rfl))
 f224:=Tryz.func288.trans (congrArg some (by kernel_rfl))
 f225:=Tryz.func287.trans (congrArg some (by kernel_rfl))
 f266:=Tryz.func223.trans (congrArg some (by kernel_rfl))
 f267:=Tryz.func289.trans (congrArg some (by kernel_rfl))
 f314:=Tryz.func319.trans (congrArg some (by kernel_rfl))
 t3:=Tryz.underlying3
 a3:=Tryz.isAgg3
 z3:=Tryz.sizeOf3
 v3:=Tryz.zeroValue3
 t4:=Tryz.underlying4
 a4:=Tryz.isAgg4
 z4:=Tryz.sizeOf4
 v4:=Tryz.zeroValue4
 t5:=Tryz.underlying5
 a5:=Tryz.isAgg5
 z5:=Tryz.sizeOf5
 v5:=Tryz.zeroValue5
 t9:=Tryz.underlying9
 a9:=Tryz.isAgg9
 z9:=Tryz.sizeOf9
 v9:=Tryz.zeroValue9
 t46:=Tryz.underlying145
 a46:=Tryz.isAgg145
 z46:=Tryz.sizeOf145
 v46:=Tryz.zeroValue145
 t51:=Tryz.underlying205
 a51:=Tryz.isAgg205
 z51:=Tryz.sizeOf205
 v51:=Tryz.zeroValue205
 t146:=Tryz.underlying206
 a146:=Tryz.isAgg206
 z146:=Tryz.sizeOf206
 v146:=Tryz.zeroValue206
 g1:=by kernel_rfl }
open Go.RowKit Go.Lib in
theorem Tryz.stringslite_Index (s sub:ByteArray)(m:Int)(w:World)(hs:s.size<4294967281)(hm:w.cell? ⟨1,0,none⟩=some (.int .i64 m)) :
 Calls Tryz.prog 255 #[.string s,.string sub] w fun e w'=>e=.returned (.int .i64 (Lib.index s.data.toList sub.data.toList))/\w'=w:=Any.stringslite_Index Tryz.mF s sub m w hs hm
def Tryz.Qt:Go.Shelf.Ren:=⟨fun|105=>44|212=>117|99=>118|165=>119|166=>101|170=>105|169=>106|263=>170|264=>171|206=>172|240=>162|241=>173|276=>213|277=>222|n=>n,fun|9=>9|3=>3|4=>4|20=>20|0=>0|46=>145|109=>146|5=>5|72=>124|76=>127|51=>205|146=>206|53=>102|148=>208|70=>121|37=>122|75=>126|127=>200|164=>249|80=>58|n=>n,fun|n=>n⟩
theorem Tryz.Rh:Go.Proofs.Lays.n105 Tryz.prog Tryz.Qt:={
 mixed:=by kernel_rfl
 f99:=Tryz.func118.trans (congrArg some (by kernel_rfl))
 f105:=Tryz.func44.trans (congrArg some (by kernel_rfl))
 f165:=Tryz.func119.trans (congrArg some (by kernel_rfl))
 f166:=Tryz.func101.trans (congrArg some (by kernel_rfl))
 f169:=Tryz.func106.trans (congrArg some (by kernel_rfl))
 f170:=Tryz.func105.trans (congrArg some (by kernel_rfl))
 f206:=Tryz.func172.trans (congrArg some (by kernel_rfl))
 f212:=Tryz.func117.trans (congrArg some (by kernel_rfl))
 f240:=Tryz.func162.trans (congrArg some (by kernel_rfl))
 f241:=Tryz.func173.trans (congrArg some (by kernel_rfl))
 f263:=Tryz.func170.trans (congrArg some (by kernel_rfl))
 f264:=Tryz.func171.trans (congrArg some (by kernel_rfl))
 f276:=Tryz.func213.trans (congrArg some (by kernel_rfl))
 f277:=Tryz.func222.trans (congrArg some (by kernel_rfl))
 t0:=Tryz.underlying0
 a0:=Tryz.isAgg0
 z0:=Tryz.sizeOf0
 v0:=Tryz.zeroValue0
 t3:=Tryz.underlying3
 a3:=Tryz.isAgg3
 z3:=Tryz.sizeOf3
 v3:=Tryz.zeroValue3
 t4:=Tryz.underlying4
 a4:=Tryz.isAgg4
 z4:=Tryz.sizeOf4
 v4:=Tryz.zeroValue4
 t5:=Tryz.underlying5
 a5:=Tryz.isAgg5
 z5:=Tryz.sizeOf5
 v5:=Tryz.zeroValue5
 t9:=Tryz.underlying9
 a9:=Tryz.isAgg9
 z9:=Tryz.sizeOf9
 v9:=Tryz.zeroValue9
 t20:=Tryz.underlying20
 a20:=Tryz.isAgg20
 z20:=Tryz.sizeOf20
 v20:=Tryz.zeroValue20
 t37:=Tryz.underlying122
 a37:=Tryz.isAgg122
 z37:=Tryz.sizeOf122
 v37:=Tryz.zeroValue122
 t46:=Tryz.underlying145
 a46:=Tryz.isAgg145
 z46:=Tryz.sizeOf145
 v46:=Tryz.zeroValue145
 t51:=Tryz.underlying205
 a51:=Tryz.isAgg205
 z51:=Tryz.sizeOf205
 v51:=Tryz.zeroValue205
 t53:=Tryz.underlying102
 a53:=Tryz.isAgg102
 z53:=Tryz.sizeOf102
 v53:=Tryz.zeroValue102
 t70:=Tryz.underlying121
 a70:=Tryz.isAgg121
 z70:=Tryz.sizeOf121
 v70:=Tryz.zeroValue121
 t72:=Tryz.underlying124
 a72:=Tryz.isAgg124
 z72:=Tryz.sizeOf124
 v72:=Tryz.zeroValue124
 t75:=Tryz.underlying126
 a75:=Tryz.isAgg126
 z75:=Tryz.sizeOf126
 v75:=Tryz.zeroValue126
 t76:=Tryz.underlying127
 a76:=Tryz.isAgg127
 z76:=Tryz.sizeOf127
 v76:=Tryz.zeroValue127
 t109:=Tryz.underlying146
 a109:=Tryz.isAgg146
 z109:=Tryz.sizeOf146
 v109:=Tryz.zeroValue146
 t127:=Tryz.underlying200
 a127:=Tryz.isAgg200
 z127:=Tryz.sizeOf200
 v127:=Tryz.zeroValue200
 t146:=Tryz.underlying206
 a146:=Tryz.isAgg206
 z146:=Tryz.sizeOf206
 v146:=Tryz.zeroValue206
 t148:=Tryz.underlying208
 a148:=Tryz.isAgg208
 z148:=Tryz.sizeOf208
 v148:=Tryz.zeroValue208
 t164:=Tryz.underlying249
 a164:=Tryz.isAgg249
 z164:=Tryz.sizeOf249
 v164:=Tryz.zeroValue249 }
theorem Tryz.Ps:Builder.Extra Tryz.prog Tryz.Qt:={
 sizeBuilder:=by kernel_rfl
 liesBuilder:=by kernel_rfl
 t5:=Tryz.underlying5
 a5:=Tryz.isAgg5
 z5:=Tryz.sizeOf5
 v5:=Tryz.zeroValue5
 infoByte:=by kernel_rfl
 cellsByte:=by kernel_rfl
 sizeByte:=by kernel_rfl
 neB5:=by decide }
open Go.RowKit Go.Lib in
theorem Tryz.strings_Repeat_main (s:ByteArray)(c:Nat)(w:World)(hc2:2<=c)(hc:c<=9223372036854775807)(hlen:s.size*c<=140737488355328)(h0:0<s.size) :
 Calls Tryz.prog 44 #[.string s,.int .i64 c] w fun e w'=>e=.returned (.string ⟨(Lib.repeatL s.data.toList c).toArray⟩)/\Below w.heap.size w w':=Any.strings_Repeat_main Tryz.Rh Tryz.Ps s c w hc2 hc hlen h0
open Go.RowKit Go.Lib in
theorem Tryz.strings_Repeat_zero (s:ByteArray)(w:World) :
 Calls Tryz.prog 44 #[.string s,.int .i64 0] w fun e w'=>e=.returned (.string ⟨#[]⟩)/\w'=w:=Any.strings_Repeat_zero Tryz.Rh s w
open Go.RowKit Go.Lib in
theorem Tryz.strings_Repeat_one (s:ByteArray)(w:World) :
 Calls Tryz.prog 44 #[.string s,.int .i64 1] w fun e w'=>e=.returned (.string s)/\w'=w:=Any.strings_Repeat_one Tryz.Rh s w
open Go.RowKit Go.Lib in
theorem Tryz.strings_Repeat_empty (s:ByteArray)(c:Nat)(w:World)(hc2:2<=c)(hc:c<=9223372036854775807)(h0:s.size=0) :
 Calls Tryz.prog 44 #[.string s,.int .i64 c] w fun e w'=>e=.returned (.string ⟨#[]⟩)/\w'=w:=Any.strings_Repeat_empty Tryz.Rh s c w hc2 hc h0
end Go.Proofs
end
section
namespace Go.Am
open Go Go.Proofs Go.RowKit
theorem YC {f:Nat}{rf:Func}(h:Tryz.prog.funcs[f]?=some rf)(hb:rf.body.isSome=true)(hn:(rf.name == "runtime.NumGoroutine")=false)(args:Array Value)(W:World):(callFunc f args).run Tryz.prog W=.ok (.enter f args) W:=by
 obtain⟨c,hc⟩:=Option.isSome_iff_exists.1 hb
 exact Um h hc hn args W
theorem SL (s:List UInt8):∀n,Lib.repeatL s n=repeated s n
 |0=>rfl
 |n+1=>by
  rw[repeated,← SL s n]; rfl
theorem mO:WL Tryz.prog GT 255 hIndex:=by
 intro args v hv I μ rargs hG hR
 unfold hIndex at hv
 split at hv
 ·rename_i s t
  rw[ble_eq,ble_eq,cond_eq_ite] at hv
  split at hv
  ·rename_i hle
   simp only[Bool.and_eq_true,decide_eq_true_eq] at hle
   cases hv
   cases hR with
   |cons _ r1 _ rl1 g1 q1=>
    cases q1 with
    |cons _ r2 _ rl2 g2 q2=>
     cases q2
     cases g1; cases g2
     refine⟨fun W=>YC Tryz.func255 (by kernel_rfl) (by kernel_rfl) _ W,fun w hw=>?_⟩
     obtain⟨m,hm⟩:=(hG 1 (.tuple []) rfl).1 rfl
     refine (Tryz.stringslite_Index ⟨⟨s⟩⟩ ⟨⟨t⟩⟩ m w (by show s.length<_; omega) (hw 1 0 _ hm)).mono ?_
     rintro e w' ⟨rfl,rfl⟩
     exact⟨_,rfl,by rw[eu]; exact .int _ _,Below.refl _ _⟩
  ·cases hv
 ·cases hv
theorem qm:WL Tryz.prog GT 44 hRepeat:=by
 intro args v hv I μ rargs hG hR
 unfold hRepeat at hv
 split at hv
 ·rename_i s n
  rw[ble_eq,ble_eq,cond_eq_ite] at hv
  split at hv
  ·rename_i hle
   simp only[Bool.and_eq_true,decide_eq_true_eq] at hle
   cases hv
   cases hR with
   |cons _ r1 _ rl1 g1 q1=>
    cases q1 with
    |cons _ r2 _ rl2 g2 q2=>
     cases q2
     cases g1; cases g2
     refine⟨fun W=>YC Tryz.func44 (by kernel_rfl) (by kernel_rfl) _ W,fun w hw=>?_⟩
     by_cases h0:n=0
     ·subst h0
      refine (Tryz.strings_Repeat_zero ⟨⟨s⟩⟩ w).mono ?_
      rintro e w' ⟨rfl,rfl⟩
      exact⟨_,rfl,.str [],Below.refl _ _⟩
     by_cases h1:n=1
     ·subst h1
      refine (Tryz.strings_Repeat_one ⟨⟨s⟩⟩ w).mono ?_
      rintro e w' ⟨rfl,rfl⟩
      have e1:repeated s 1=s:=by simp[repeated]
      exact⟨_,rfl,by rw[e1]; exact .str s,Below.refl _ _⟩
     by_cases hs:s=[]
     ·subst hs
      refine (Tryz.strings_Repeat_empty ⟨⟨[]⟩⟩ n w (by omega) (by omega) rfl).mono ?_
      rintro e w' ⟨rfl,rfl⟩
      have e1:repeated ([]:List UInt8) n=[]:=by
       clear hle hw h0 h1
       induction n with
       |zero=>rfl
       |succ n ih=>rw[repeated,ih]; rfl
      exact⟨_,rfl,by rw[e1]; exact .str [],Below.refl _ _⟩
     ·have hpos:0<s.length:=List.length_pos_iff.2 hs
      have hmul:s.length*n<=1000*1000:=Nat.mul_le_mul hle.1 hle.2
      refine (Tryz.strings_Repeat_main ⟨⟨s⟩⟩ n w (by omega) (by omega) (show s.length*n<=_ by omega) hpos).mono ?_
      rintro e w' ⟨rfl,hb⟩
      refine⟨_,rfl,?_,hb⟩
      rw[← SL]
      exact .str (Lib.repeatL s n)
  ·cases hv
 ·cases hv
theorem uY {f:Nat}{g:List AV->Option AV}(h:hookOf f=some g):WL Tryz.prog GT f g:=by
 unfold hookOf at h
 simp only[beq_eq,cond_eq_ite,decide_eq_true_eq] at h
 split at h
 ·rename_i q; subst q; cases h; exact mO
 split at h
 ·rename_i q; subst q; cases h; exact qm
 ·cases h
end Go.Am
end
