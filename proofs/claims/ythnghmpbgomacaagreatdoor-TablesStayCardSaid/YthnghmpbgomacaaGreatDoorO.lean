/- A part of tablesStay. -/
import Derived.Test.YthnghmpbgomacaaGreatDoorX
import Derived.Carry
import Derived.LaidMore
import Derived.Lay
import Derived.Lib.LaidTab
import Derived.OpenShut
import Derived.ProofKit
import Derived.Stop.Joined
import Derived.Stop.LaidErr
import Derived.Test.YthnghmpbgomacaaGreatDoorCards
import Derived.Test.YthnghmpbgomacaaGreatDoorTie
namespace Go.Am
open Go Go.Proofs Go.RowKit Go.ChangeShapes Go.WideShapes Go.ChangeAt
open Go.Proofs.YthnghmpbgomacaaGreatDoor
theorem Qe(I:HY)(μ:Mu)(k:IntKind)(a:List Int):BR I μ (a.map (AV.int k)) (a.map (Value.int k)):=by
 induction a with
 |nil=>exact .nil
 |cons z a b=>exact .cons _ _ _ _ (.int k z) b
theorem YV(k:IntKind)(a:List Int):One (a.map (Value.int k)):=by intro v b;obtain⟨z,_,rfl⟩:=BP.1 b;rfl
def Uu(W:World):HY where
 cell r off:=W.cell? ⟨r,off,none⟩
 map r:=W.heap[r]?
theorem rM(W:World):CQ W.heap.size ⟨W,Uu W⟩ (Uu W) (fun _=>none) ⟨[],0,0⟩ W:=by refine⟨Below.refl _ _,Ao _,fun r a v h=>h,fun r b h=>h,fun _ _=>rfl,?_,?_,?_,?_,?_,?_,fun r _=>⟨fun _=>rfl,rfl⟩⟩;all_goals (intros;simp_all [AA])
abbrev laidAll:List (String×DataW Unit):=[("math/bits.deBruijn32tab",Rows.laid_math_bits_deBruijn32tab),("math/bits.deBruijn64tab",Rows.laid_math_bits_deBruijn64tab),("internal/strconv.uint64pow10",Rows.laid_internal_strconv_uint64pow10),("strconv.ErrRange",Rows.laid_strconv_ErrRange),("strconv.ErrSyntax",Rows.laid_strconv_ErrSyntax),("unicode.White_Space",Rows.laid_unicode_White_Space),("strings.asciiSpace",Rows.laid_strings_asciiSpace),("hedgelayer/repair.never",Rows.laid_hedgelayer_repair_never)]
theorem yK:Tryz.prog.globalNamed "strings.asciiSpace" =some 0:=by kernel_rfl
theorem yJ:Tryz.prog.globalNamed "hedgelayer/repair.never" =some 2:=by kernel_rfl
theorem qJ:Tryz.prog.globalNamed "strconv.ErrSyntax" =some 4:=by kernel_rfl
theorem yI:Tryz.prog.globalNamed "strconv.ErrRange" =some 5:=by kernel_rfl
theorem ACO:(Tryz.prog.globals[0]?).map (·.type)=some 303:=by kernel_rfl
theorem AG7:(Tryz.prog.globals[6]?).map (·.type)=some 405:=by kernel_rfl
theorem ACN:(Tryz.prog.globals[2]?).map (·.type)=some 170:=by kernel_rfl
theorem zt:(Tryz.prog.globals[4]?).map (·.type)=some 127:=by kernel_rfl
theorem ACK:(Tryz.prog.globals[5]?).map (·.type)=some 127:=by kernel_rfl
theorem star : "*" ++ "errors.errorString" = "*errors.errorString":=by decide
theorem fZ(u:TypeId)(h:Tryz.prog.typeName? 3 u=some "*errors.errorString"):u=392:=
 typeName_ptr_named (nm := "errors.errorString") (by rw[star];kernel_rfl) (by kernel_rfl) (by decide) u (by rw[star];exact h)
theorem AFy:Tryz.prog.cellsOf 394=1:=by kernel_rfl
theorem c9:Tryz.prog.cellsOf 9=1:=by kernel_rfl
theorem c3:Tryz.prog.cellsOf 3=1:=by kernel_rfl
theorem c5:Tryz.prog.cellsOf 5=1:=by kernel_rfl
theorem AHR:Tryz.prog.cellsOf 170=2:=by kernel_rfl
theorem AHS:Tryz.prog.cellsOf 200=1:=by kernel_rfl
theorem AHP:Tryz.prog.cellsOf 405=20:=by kernel_rfl
theorem AHQ:Tryz.prog.cellsOf 303=256:=by kernel_rfl
theorem rO{W:World}{a:Addr}{v:Value}(h:W.cell? a=some v):a=⟨a.block,a.off,none⟩:=by
 unfold World.cell? at h;split at h
 ·split at h
  ·cases h
  ·rename_i c;obtain⟨b,o,s⟩:=a;cases s with
   |none=>rfl
   |some x=>simp at c
 ·cases h
theorem zy(I:HY)(μ:Mu)(s:ByteArray){l:List UInt8}(h:s.data.toList=l):BO I μ (.str l) (.string s):=by
 subst h;have:s=⟨⟨s.data.toList⟩⟩:=by cases s with|mk d=>cases d;rfl
 conv=>arg 4;rw[this]
 exact .str _
theorem UX{W:World}{μ:Mu}{n:String}{g:Nat}{a:Addr}{s:ByteArray}{l:List UInt8}(j:Tryz.prog.globalNamed n=some g)(f:W.var? Tryz.prog n=some #[.iface 392 (.pointer (some a))])(c:W.cell? a=some (.string s))(h:s.data.toList=l) :
 BO (Uu W) μ (.CB [.iface 392 (.CB [.str l])]) (.pointer (some ⟨g,0,none⟩)):=by
 have e:=rO c;refine .CB _ g 0 [.iface 392 (.pointer (some a))] (fun i d=>?_) (by intro v b;simp at b;subst b;rfl) (.cons _ _ _ _ (.iface 392 _ _ ?_) .nil)
 ·have:=World.var?_cell j f i;match i,d with
  |0,_=>exact this
 ·rw[e];refine .CB _ a.block a.off [.string s] (fun i d=>?_) (by intro v b;simp at b;subst b;rfl) (.cons _ _ _ _ (zy _ _ s h) .nil);match i,d with
  |0,_=>rw[e]at c;exact c
def WW:List Int:=(List.range 256).map fun i=>if i==9||i==10||i==11||i==12||i==13||i==32 then (1:Int) else 0
set_option maxRecDepth 100000 in
theorem jE{H:Type}:(Rows.laid_strings_asciiSpace:DataW H)=Lib.tabData .u8 WW:=by rfl
set_option maxRecDepth 100000 in
theorem ou:qY=.CB (WW.map (AV.int .u8)):=by rfl
set_option maxRecDepth 100000 in
theorem mV{H:Type}:(Rows.laid_internal_strconv_uint64pow10:DataW H)=Lib.tabData .u64 Lib.pow10Tab:=by rfl
theorem AAn{W:World}(h:laidMet Tryz.prog laidAll W)(U:∃m,W.cell? ⟨1,0,none⟩=some (.int .i64 m)):Ht GT (Uu W):=by
 have a:Lib.TabIs Tryz.prog W "internal/strconv.uint64pow10" .u64 Lib.pow10Tab:=by have K:=h.tail.tail;refine Lib.tabIs_of_head ADF AG7 Tryz.underlying405 Tryz.underlying200 AHS AHP (rest:=laidAll.drop 3) ?_;rw[←mV];exact K
 have H:=h.tail.tail.tail;obtain⟨ar,sr,L,T,J,_⟩:=laid_sentinel H yI ACK Tryz.underlying127 fZ Tryz.underlying392 Tryz.underlying394 rfl rfl Tryz.underlying9 AFy c9;have B:=H.tail;obtain⟨Y,a0,S,N,V,_⟩:=laid_sentinel B qJ zt Tryz.underlying127 fZ Tryz.underlying392 Tryz.underlying394 rfl rfl Tryz.underlying9 AFy c9;have I:=B.tail.tail;have l:Lib.TabIs Tryz.prog W "strings.asciiSpace" .u8 WW:=by refine Lib.tabIs_of_head (rest:=[("hedgelayer/repair.never",Rows.laid_hedgelayer_repair_never)]) yK ACO Tryz.underlying303 Tryz.underlying5 c5 AHQ ?_;rw[←jE];exact I
 have O:=I.tail;obtain⟨ps,⟨g0,t0,j,f0,p0,q0,v,x,s,y,_,e0⟩,_,_⟩:=O;obtain rfl:=JK (yJ.symm.trans v);obtain rfl:=JK (ACN.symm.trans x);obtain⟨y0,y1,n,w,F,k,d⟩:=trod_struct2 Tryz.underlying170 y;simp only[Rows.laid_hedgelayer_repair_never,JL,DataW.agg.injEq,Lg,BX]at w;rw[c3]at k d;rw[AHR]at F;obtain⟨R⟩:=j;match R,F with
 |[u0,u1],_=>
 obtain⟨n0,D,rfl,_⟩:=DataW.trod_int Tryz.underlying3 k;obtain⟨n1,A,rfl,_⟩:=DataW.trod_int Tryz.underlying3 d;simp only[FB,List.take_succ_cons,List.take_zero,Lg,BX,List.drop_succ_cons]at D A;subst D;subst A;simp only[DataW.lit.injEq,Lit.int.injEq,true_and]at w;obtain⟨⟨Z,P⟩,_⟩:=w;intro g u b;unfold GT at b;simp only[beq_eq,Ad,Aw]at b;split at b
 ·rename_i q;subst q;cases b;exact⟨fun _=>U,fun h=>(by cases h),fun f c o=>(by cases c;exact absurd rfl o)⟩
 split at b
 ·rename_i q;subst q;cases b;refine⟨fun h=>?_,fun h=>(by cases h),fun f c _=>?_⟩
  ·injection h with h;exact absurd (Ot List.length h) (by simp[Xb,Lib.pow10Tab])
  ·injection c with c;subst c;unfold Lib.TabIs World.var? at a;rw[ADF,Option.bind_some]at a;split at a
   ·rename_i j r p Q;obtain rfl:=JK a;exact⟨r,p,_,Q,fun μ=>by
     show BR _ μ _ (Lib.pow10Tab.map fun z=>Value.int .u64 z)
     exact Qe _ _ .u64 Lib.pow10Tab⟩
   ·cases a
 split at b
 ·rename_i q;subst q;cases b;rw[ou];refine⟨fun h=>by (cases h),fun _ μ=>?_,fun f c=>by cases c⟩;refine BO.CB _ 0 0 _ (fun i t=>?_) (YV .u8 WW) (Qe _ _ .u8 WW);have e:i<WW.length:=by simpa using t
  have c:=l.cell yK i e;show W.cell? ⟨0,0+i,none⟩=_;rw[Dz,c];simp[List.getD,e]
 split at b
 ·rename_i q;subst q;cases b;subst Z;subst P;refine⟨fun h=>by (cases h),fun _ μ=>?_,fun f c=>by cases c⟩;refine BO.CB _ 2 0 _ (fun i t=>?_) (YV .i64 [1152921504606846976,0]) (Qe _ _ .i64 [1152921504606846976,0]);have:=World.var?_cell yJ s i;show W.cell? ⟨2,0+i,none⟩=_;rw[Dz,this];match i,t with
  |0,_=>rfl
  |1,_=>rfl
 split at b
 ·rename_i q;subst q;cases b;exact⟨fun h=>by (cases h),fun _ μ=>UX qJ S N V,fun f c=>(by cases c)⟩
 split at b
 ·rename_i q;subst q;cases b;exact⟨fun h=>by (cases h),fun _ μ=>UX yI L T J,fun f c=>(by cases c)⟩
 ·cases b
end Go.Am
