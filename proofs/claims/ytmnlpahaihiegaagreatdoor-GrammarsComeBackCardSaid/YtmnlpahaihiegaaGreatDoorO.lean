/- A part of the proof of grammarsComeBack (merged by a program). -/
import Derived.Test.YtmnlpahaihiegaaGreatDoorX
import Derived.Carry
import Derived.LaidMore
import Derived.Lay
import Derived.Lib.LaidTab
import Derived.OpenShut
import Derived.ProofKit
import Derived.Stop.Joined
import Derived.Stop.LaidErr
import Derived.Test.YtmnlpahaihiegaaGreatDoorCards
import Derived.Test.YtmnlpahaihiegaaGreatDoorTie
namespace Go.Am
open Go Go.Proofs Go.RowKit Go.ChangeShapes Go.WideShapes Go.ChangeAt
open Go.Proofs.YtmnlpahaihiegaaGreatDoor
theorem Ki (I:Cv)(μ:Mu)(k:IntKind)(zs:List Int):Ah I μ (zs.map (AV.int k)) (zs.map (Value.int k)):=by
 induction zs with
 |nil=>exact .nil
 |cons z zs ih=>exact .cons _ _ _ _ (.int k z) ih
theorem QO (k:IntKind)(zs:List Int):One (zs.map (Value.int k)):=by
 intro v hv
 obtain⟨z,_,rfl⟩:=List.mem_map.1 hv
 rfl
def Nc (W:World):Cv where
 cell r off:=W.cell? ⟨r,off,none⟩
 map r:=W.heap[r]?
theorem Yf (W:World):Ay W.heap.size ⟨W,Nc W⟩ (Nc W) (fun _=>none) ⟨[],0,0⟩ W:=by
 refine⟨Below.refl _ _,Nat.le_refl _,fun r off v h=>h,fun r b h=>h,fun _ _=>rfl,?_,?_,?_,?_,?_,?_,fun r _=>⟨fun _=>rfl,rfl⟩⟩
 all_goals (intros; simp_all [AA])
abbrev laidAll:List (String × DataW Unit):=[("math/bits.deBruijn32tab",Rows.laid_math_bits_deBruijn32tab),("math/bits.deBruijn64tab",Rows.laid_math_bits_deBruijn64tab),("internal/strconv.uint64pow10",Rows.laid_internal_strconv_uint64pow10),("unicode/utf8.acceptRanges",Rows.laid_unicode_utf8_acceptRanges),("strconv.ErrRange",Rows.laid_strconv_ErrRange),("strconv.ErrSyntax",Rows.laid_strconv_ErrSyntax),("unicode.White_Space",Rows.laid_unicode_White_Space),("strings.asciiSpace",Rows.laid_strings_asciiSpace),("hedgelayer/repair.never",Rows.laid_hedgelayer_repair_never),("unicode/utf8.first",Rows.laid_unicode_utf8_first)]
theorem bW:Tryz.prog.globalNamed "strings.asciiSpace" =some 0:=by kernel_rfl
theorem bV:Tryz.prog.globalNamed "hedgelayer/repair.never" =some 3:=by kernel_rfl
theorem YA:Tryz.prog.globalNamed "strconv.ErrSyntax" =some 4:=by kernel_rfl
theorem bU:Tryz.prog.globalNamed "strconv.ErrRange" =some 5:=by kernel_rfl
theorem iy:(Tryz.prog.globals[0]?).map (·.type)=some 233:=by kernel_rfl
theorem pI:(Tryz.prog.globals[6]?).map (·.type)=some 362:=by kernel_rfl
theorem iw:(Tryz.prog.globals[3]?).map (·.type)=some 152:=by kernel_rfl
theorem dh:(Tryz.prog.globals[4]?).map (·.type)=some 59:=by kernel_rfl
theorem iq:(Tryz.prog.globals[5]?).map (·.type)=some 59:=by kernel_rfl
theorem star : "*" ++ "errors.errorString" = "*errors.errorString":=by decide
theorem UK (u:TypeId)(h:Tryz.prog.typeName? 3 u=some "*errors.errorString"):u=392:=
 typeName_ptr_named (nm := "errors.errorString") (by rw[star]; kernel_rfl) (by kernel_rfl) (by decide) u (by rw[star]; exact h)
theorem mE:Tryz.prog.cellsOf 394=1:=by kernel_rfl
theorem c9:Tryz.prog.cellsOf 9=1:=by kernel_rfl
theorem c3:Tryz.prog.cellsOf 3=1:=by kernel_rfl
theorem c5:Tryz.prog.cellsOf 5=1:=by kernel_rfl
theorem pU:Tryz.prog.cellsOf 152=2:=by kernel_rfl
theorem pV:Tryz.prog.cellsOf 241=1:=by kernel_rfl
theorem pQ:Tryz.prog.cellsOf 362=20:=by kernel_rfl
theorem pR:Tryz.prog.cellsOf 233=256:=by kernel_rfl
theorem Yg {W:World}{a:Addr}{v:Value}(h:W.cell? a=some v):a=⟨a.block,a.off,none⟩:=by
 unfold World.cell? at h
 split at h
 ·split at h
  ·cases h
  ·rename_i hs
   obtain⟨b,o,s⟩:=a
   cases s with
   |none=>rfl
   |some x=>simp at hs
 ·cases h
theorem di (I:Cv)(μ:Mu)(s:ByteArray){l:List UInt8}(h:s.data.toList=l):Ae I μ (.str l) (.string s):=by
 subst h
 have:s=⟨⟨s.data.toList⟩⟩:=by cases s with|mk d=>cases d; rfl
 conv=>arg 4; rw[this]
 exact .str _
theorem NK {W:World}{μ:Mu}{n:String}{g:Nat}{a:Addr}{s:ByteArray}{l:List UInt8}(hg:Tryz.prog.globalNamed n=some g)(h1:W.var? Tryz.prog n=some #[.iface 392 (.pointer (some a))])(h2:W.cell? a=some (.string s))(h3:s.data.toList=l) :
 Ae (Nc W) μ (.BN [.iface 392 (.BN [.str l])]) (.pointer (some ⟨g,0,none⟩)):=by
 have ha:=Yg h2
 refine .BN _ g 0 [.iface 392 (.pointer (some a))] (fun i hi=>?_) (by intro v hv; simp at hv; subst hv; rfl) (.cons _ _ _ _ (.iface 392 _ _ ?_) .nil)
 ·have:=World.var?_cell hg h1 i
  match i,hi with
  |0,_=>exact this
 ·rw[ha]
  refine .BN _ a.block a.off [.string s] (fun i hi=>?_) (by intro v hv; simp at hv; subst hv; rfl) (.cons _ _ _ _ (di _ _ s h3) .nil)
  match i,hi with
  |0,_=>rw[ha] at h2; exact h2
def Oe:List Int:=(List.range 256).map fun i=>if i==9||i==10||i==11||i==12||i==13||i==32 then (1:Int) else 0
set_option maxRecDepth 100000 in
theorem Vp {H:Type}:(Rows.laid_strings_asciiSpace:DataW H)=Lib.tabData .u8 Oe:=by rfl
set_option maxRecDepth 100000 in
theorem Xj:YM=.BN (Oe.map (AV.int .u8)):=by rfl
set_option maxRecDepth 100000 in
theorem Wn {H:Type}:(Rows.laid_internal_strconv_uint64pow10:DataW H)=Lib.tabData .u64 Lib.pow10Tab:=by rfl
theorem fP {W:World}(h:laidMet Tryz.prog laidAll W)(hm:∃m,W.cell? ⟨2,0,none⟩=some (.int .i64 m)):DV GT (Nc W):=by
 have tab3:Lib.TabIs Tryz.prog W "internal/strconv.uint64pow10" .u64 Lib.pow10Tab:=by
  have h2:=h.tail.tail
  refine Lib.tabIs_of_head jE pI Tryz.underlying362 Tryz.underlying241 pV pQ (rest:=laidAll.drop 3) ?_
  rw[← Wn]; exact h2
 have h3:=h.tail.tail.tail.tail
 obtain⟨ar,sr,r1,r2,r3,_⟩:=laid_sentinel h3 bU iq Tryz.underlying59 UK Tryz.underlying392 Tryz.underlying394 rfl rfl Tryz.underlying9 mE c9
 have h4:=h3.tail
 obtain⟨asy,ssy,s1,s2,s3,_⟩:=laid_sentinel h4 YA dh Tryz.underlying59 UK Tryz.underlying392 Tryz.underlying394 rfl rfl Tryz.underlying9 mE c9
 have h6:=h4.tail.tail
 have tab:Lib.TabIs Tryz.prog W "strings.asciiSpace" .u8 Oe:=by
  refine Lib.tabIs_of_head (rest:=[("hedgelayer/repair.never",Rows.laid_hedgelayer_repair_never),("unicode/utf8.first",Rows.laid_unicode_utf8_first)]) bW iy Tryz.underlying233 Tryz.underlying5 c5 pR ?_
  rw[← Vp]; exact h6
 have h7:=h6.tail
 obtain⟨ps,⟨g0,t0,cs0,f0,p0,q0,hg0,ht0,hv0,hd0,_,e0⟩,_,_⟩:=h7
 obtain rfl:=Option.some.inj (bV.symm.trans hg0)
 obtain rfl:=Option.some.inj (iw.symm.trans ht0)
 obtain⟨y0,y1,n,hx,hl,hy0,hy1⟩:=trod_struct2 Tryz.underlying152 hd0
 simp only[Rows.laid_hedgelayer_repair_never,Prod.mk.injEq,DataW.agg.injEq,List.cons.injEq,and_true] at hx
 rw[c3] at hy0 hy1
 rw[pU] at hl
 obtain⟨l0⟩:=cs0
 match l0,hl with
 |[u0,u1],_=>
 obtain⟨n0,k0,rfl,_⟩:=DataW.trod_int Tryz.underlying3 hy0
 obtain⟨n1,k1,rfl,_⟩:=DataW.trod_int Tryz.underlying3 hy1
 simp only[List.drop_zero,List.take_succ_cons,List.take_zero,List.cons.injEq,and_true,List.drop_succ_cons] at k0 k1
 subst k0; subst k1
 simp only[DataW.lit.injEq,Lit.int.injEq,true_and] at hx
 obtain⟨⟨e1,e2⟩,_⟩:=hx
 intro g u hu
 unfold GT at hu
 simp only[beq_eq,cond_eq_ite,decide_eq_true_eq] at hu
 split at hu
 ·rename_i q; subst q
  cases hu
  exact⟨fun _=>hm,fun h=>(by cases h),fun cs hc hne=>(by cases hc; exact absurd rfl hne)⟩
 split at hu
 ·rename_i q; subst q
  cases hu
  refine⟨fun h=>?_,fun h=>(by cases h),fun cs hc _=>?_⟩
  ·injection h with h; exact absurd (congrArg List.length h) (by simp[Pg,Lib.pow10Tab])
  ·injection hc with hc; subst hc
   unfold Lib.TabIs World.var? at tab3
   rw[jE,Option.bind_some] at tab3
   split at tab3
   ·rename_i cs0 ty0 fz0 hw
    obtain rfl:=Option.some.inj tab3
    exact⟨ty0,fz0,_,hw,fun μ=>by
     show Ah _ μ _ (Lib.pow10Tab.map fun z=>Value.int .u64 z)
     exact Ki _ _ .u64 Lib.pow10Tab⟩
   ·cases tab3
 split at hu
 ·rename_i q; subst q
  cases hu
  rw[Xj]
  refine⟨fun h=>by (cases h),fun _ μ=>?_,fun cs hc=>by cases hc⟩
  refine Ae.BN _ 0 0 _ (fun i hi=>?_) (QO .u8 Oe) (Ki _ _ .u8 Oe)
  have hi':i<Oe.length:=by simpa using hi
  have hc:=tab.cell bW i hi'
  show W.cell? ⟨0,0+i,none⟩=_
  rw[Nat.zero_add,hc]
  simp[List.getD,hi']
 split at hu
 ·rename_i q; subst q
  cases hu
  subst e1; subst e2
  refine⟨fun h=>by (cases h),fun _ μ=>?_,fun cs hc=>by cases hc⟩
  refine Ae.BN _ 3 0 _ (fun i hi=>?_) (QO .i64 [1152921504606846976,0]) (Ki _ _ .i64 [1152921504606846976,0])
  have:=World.var?_cell bV hv0 i
  show W.cell? ⟨3,0+i,none⟩=_
  rw[Nat.zero_add,this]
  match i,hi with
  |0,_=>rfl
  |1,_=>rfl
 split at hu
 ·rename_i q; subst q
  cases hu
  exact⟨fun h=>by (cases h),fun _ μ=>NK YA s1 s2 s3,fun cs hc=>(by cases hc)⟩
 split at hu
 ·rename_i q; subst q
  cases hu
  exact⟨fun h=>by (cases h),fun _ μ=>NK bU r1 r2 r3,fun cs hc=>(by cases hc)⟩
 ·cases hu
end Go.Am
