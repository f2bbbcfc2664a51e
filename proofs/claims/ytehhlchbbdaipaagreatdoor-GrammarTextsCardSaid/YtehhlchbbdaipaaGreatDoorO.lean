/- A part of the proof of grammarTexts (merged by a program). -/
import Derived.Test.YtehhlchbbdaipaaGreatDoorX
import Derived.Carry
import Derived.LaidMore
import Derived.Lay
import Derived.Lib.LaidTab
import Derived.OpenShut
import Derived.ProofKit
import Derived.Stop.Joined
import Derived.Stop.LaidErr
import Derived.Test.YtehhlchbbdaipaaGreatDoorCards
import Derived.Test.YtehhlchbbdaipaaGreatDoorTie
namespace Go.Am
open Go Go.Proofs Go.RowKit Go.ChangeShapes Go.WideShapes Go.ChangeAt
open Go.Proofs.YtehhlchbbdaipaaGreatDoor
theorem KN (I:Cz)(μ:Mu)(k:IntKind)(zs:List Int):Ah I μ (zs.map (AV.int k)) (zs.map (Value.int k)):=by
 induction zs with
 |nil=>exact .nil
 |cons z zs ih=>exact .cons _ _ _ _ (.int k z) ih
theorem Py (k:IntKind)(zs:List Int):One (zs.map (Value.int k)):=by
 intro v hv
 obtain⟨z,_,rfl⟩:=List.mem_map.1 hv
 rfl
def NK (W:World):Cz where
 cell r off:=W.cell? ⟨r,off,none⟩
 map r:=W.heap[r]?
theorem Xv (W:World):Ar W.heap.size ⟨W,NK W⟩ (NK W) (fun _=>none) ⟨[],0,0⟩ W:=by
 refine⟨Below.refl _ _,Nat.le_refl _,fun r off v h=>h,fun r b h=>h,fun _ _=>rfl,?_,?_,?_,?_,?_,?_,fun r _=>⟨fun _=>rfl,rfl⟩⟩
 all_goals (intros; simp_all [AA])
abbrev laidAll:List (String × DataW Unit):=[("math/bits.deBruijn32tab",Rows.laid_math_bits_deBruijn32tab),("math/bits.deBruijn64tab",Rows.laid_math_bits_deBruijn64tab),("internal/strconv.uint64pow10",Rows.laid_internal_strconv_uint64pow10),("unicode/utf8.acceptRanges",Rows.laid_unicode_utf8_acceptRanges),("strconv.ErrRange",Rows.laid_strconv_ErrRange),("strconv.ErrSyntax",Rows.laid_strconv_ErrSyntax),("unicode.White_Space",Rows.laid_unicode_White_Space),("strings.asciiSpace",Rows.laid_strings_asciiSpace),("hedgelayer/repair.never",Rows.laid_hedgelayer_repair_never),("unicode/utf8.first",Rows.laid_unicode_utf8_first)]
theorem aI:Tryz.prog.globalNamed "strings.asciiSpace" =some 0:=by kernel_rfl
theorem aH:Tryz.prog.globalNamed "hedgelayer/repair.never" =some 2:=by kernel_rfl
theorem XM:Tryz.prog.globalNamed "strconv.ErrSyntax" =some 5:=by kernel_rfl
theorem aG:Tryz.prog.globalNamed "strconv.ErrRange" =some 6:=by kernel_rfl
theorem fE:(Tryz.prog.globals[0]?).map (·.type)=some 293:=by kernel_rfl
theorem mg:(Tryz.prog.globals[3]?).map (·.type)=some 325:=by kernel_rfl
theorem fw:(Tryz.prog.globals[2]?).map (·.type)=some 192:=by kernel_rfl
theorem bN:(Tryz.prog.globals[5]?).map (·.type)=some 126:=by kernel_rfl
theorem fu:(Tryz.prog.globals[6]?).map (·.type)=some 126:=by kernel_rfl
theorem star : "*" ++ "errors.errorString" = "*errors.errorString":=by decide
theorem Te (u:TypeId)(h:Tryz.prog.typeName? 3 u=some "*errors.errorString"):u=384:=
 typeName_ptr_named (nm := "errors.errorString") (by rw[star]; kernel_rfl) (by kernel_rfl) (by decide) u (by rw[star]; exact h)
theorem kW:Tryz.prog.cellsOf 386=1:=by kernel_rfl
theorem c9:Tryz.prog.cellsOf 9=1:=by kernel_rfl
theorem c3:Tryz.prog.cellsOf 3=1:=by kernel_rfl
theorem c5:Tryz.prog.cellsOf 5=1:=by kernel_rfl
theorem nA:Tryz.prog.cellsOf 192=2:=by kernel_rfl
theorem nC:Tryz.prog.cellsOf 102=1:=by kernel_rfl
theorem mr:Tryz.prog.cellsOf 325=20:=by kernel_rfl
theorem mE:Tryz.prog.cellsOf 293=256:=by kernel_rfl
theorem Xw {W:World}{a:Addr}{v:Value}(h:W.cell? a=some v):a=⟨a.block,a.off,none⟩:=by
 unfold World.cell? at h
 split at h
 ·split at h
  ·cases h
  ·rename_i hs
   obtain⟨b,o,s⟩:=a
   cases s with
   |none=>rfl
   |some x=>simp at hs
 ·cases h
theorem bP (I:Cz)(μ:Mu)(s:ByteArray){l:List UInt8}(h:s.data.toList=l):Ad I μ (.str l) (.string s):=by
 subst h
 have:s=⟨⟨s.data.toList⟩⟩:=by cases s with|mk d=>cases d; rfl
 conv=>arg 4; rw[this]
 exact .str _
theorem Mw {W:World}{μ:Mu}{n:String}{g:Nat}{a:Addr}{s:ByteArray}{l:List UInt8}(hg:Tryz.prog.globalNamed n=some g)(h1:W.var? Tryz.prog n=some #[.iface 384 (.pointer (some a))])(h2:W.cell? a=some (.string s))(h3:s.data.toList=l) :
 Ad (NK W) μ (.BA [.iface 384 (.BA [.str l])]) (.pointer (some ⟨g,0,none⟩)):=by
 have ha:=Xw h2
 refine .BA _ g 0 [.iface 384 (.pointer (some a))] (fun i hi=>?_) (by intro v hv; simp at hv; subst hv; rfl) (.cons _ _ _ _ (.iface 384 _ _ ?_) .nil)
 ·have:=World.var?_cell hg h1 i
  match i,hi with
  |0,_=>exact this
 ·rw[ha]
  refine .BA _ a.block a.off [.string s] (fun i hi=>?_) (by intro v hv; simp at hv; subst hv; rfl) (.cons _ _ _ _ (bP _ _ s h3) .nil)
  match i,hi with
  |0,_=>rw[ha] at h2; exact h2
def OL:List Int:=(List.range 256).map fun i=>if i==9||i==10||i==11||i==12||i==13||i==32 then (1:Int) else 0
set_option maxRecDepth 100000 in
theorem VJ {H:Type}:(Rows.laid_strings_asciiSpace:DataW H)=Lib.tabData .u8 OL:=by rfl
set_option maxRecDepth 100000 in
theorem Wu:XZ=.BA (OL.map (AV.int .u8)):=by rfl
set_option maxRecDepth 100000 in
theorem Vu {H:Type}:(Rows.laid_internal_strconv_uint64pow10:DataW H)=Lib.tabData .u64 Lib.pow10Tab:=by rfl
theorem dG {W:World}(h:laidMet Tryz.prog laidAll W)(hm:∃m,W.cell? ⟨1,0,none⟩=some (.int .i64 m)):Dl GT (NK W):=by
 have tab3:Lib.TabIs Tryz.prog W "internal/strconv.uint64pow10" .u64 Lib.pow10Tab:=by
  have h2:=h.tail.tail
  refine Lib.tabIs_of_head iT mg Tryz.underlying325 Tryz.underlying102 nC mr (rest:=laidAll.drop 3) ?_
  rw[← Vu]; exact h2
 have h3:=h.tail.tail.tail.tail
 obtain⟨ar,sr,r1,r2,r3,_⟩:=laid_sentinel h3 aG fu Tryz.underlying126 Te Tryz.underlying384 Tryz.underlying386 rfl rfl Tryz.underlying9 kW c9
 have h4:=h3.tail
 obtain⟨asy,ssy,s1,s2,s3,_⟩:=laid_sentinel h4 XM bN Tryz.underlying126 Te Tryz.underlying384 Tryz.underlying386 rfl rfl Tryz.underlying9 kW c9
 have h6:=h4.tail.tail
 have tab:Lib.TabIs Tryz.prog W "strings.asciiSpace" .u8 OL:=by
  refine Lib.tabIs_of_head (rest:=[("hedgelayer/repair.never",Rows.laid_hedgelayer_repair_never),("unicode/utf8.first",Rows.laid_unicode_utf8_first)]) aI fE Tryz.underlying293 Tryz.underlying5 c5 mE ?_
  rw[← VJ]; exact h6
 have h7:=h6.tail
 obtain⟨ps,⟨g0,t0,cs0,f0,p0,q0,hg0,ht0,hv0,hd0,_,e0⟩,_,_⟩:=h7
 obtain rfl:=Option.some.inj (aH.symm.trans hg0)
 obtain rfl:=Option.some.inj (fw.symm.trans ht0)
 obtain⟨y0,y1,n,hx,hl,hy0,hy1⟩:=trod_struct2 Tryz.underlying192 hd0
 simp only[Rows.laid_hedgelayer_repair_never,Prod.mk.injEq,DataW.agg.injEq,List.cons.injEq,and_true] at hx
 rw[c3] at hy0 hy1
 rw[nA] at hl
 obtain⟨l0⟩:=cs0
 match l0,hl with
 |[u0,u1],_=>
 obtain⟨n0,k0,rfl,_⟩:=DataW.trod_int Tryz.underlying3 hy0
 obtain⟨n1,k1,rfl,_⟩:=DataW.trod_int Tryz.underlying3 hy1
 simp only[List.drop_zero,List.take_succ_cons,List.take_zero,List.cons.injEq,and_true,List.drop_succ_cons] at k0 k1
 subst k0; subst k1
 simp only[DataW.lit.injEq,Lit.int.injEq,true_and] at hx
 obtain⟨⟨e1,e2⟩,_⟩:=hx
 intro g u hu
 unfold GT at hu
 simp only[beq_eq,cond_eq_ite,decide_eq_true_eq] at hu
 split at hu
 ·rename_i q; subst q
  cases hu
  exact⟨fun _=>hm,fun h=>(by cases h),fun cs hc hne=>(by cases hc; exact absurd rfl hne)⟩
 split at hu
 ·rename_i q; subst q
  cases hu
  refine⟨fun h=>?_,fun h=>(by cases h),fun cs hc _=>?_⟩
  ·injection h with h; exact absurd (congrArg List.length h) (by simp[PO,Lib.pow10Tab])
  ·injection hc with hc; subst hc
   unfold Lib.TabIs World.var? at tab3
   rw[iT,Option.bind_some] at tab3
   split at tab3
   ·rename_i cs0 ty0 fz0 hw
    obtain rfl:=Option.some.inj tab3
    exact⟨ty0,fz0,_,hw,fun μ=>by
     show Ah _ μ _ (Lib.pow10Tab.map fun z=>Value.int .u64 z)
     exact KN _ _ .u64 Lib.pow10Tab⟩
   ·cases tab3
 split at hu
 ·rename_i q; subst q
  cases hu
  rw[Wu]
  refine⟨fun h=>by (cases h),fun _ μ=>?_,fun cs hc=>by cases hc⟩
  refine Ad.BA _ 0 0 _ (fun i hi=>?_) (Py .u8 OL) (KN _ _ .u8 OL)
  have hi':i<OL.length:=by simpa using hi
  have hc:=tab.cell aI i hi'
  show W.cell? ⟨0,0+i,none⟩=_
  rw[Nat.zero_add,hc]
  simp[List.getD,hi']
 split at hu
 ·rename_i q; subst q
  cases hu
  subst e1; subst e2
  refine⟨fun h=>by (cases h),fun _ μ=>?_,fun cs hc=>by cases hc⟩
  refine Ad.BA _ 2 0 _ (fun i hi=>?_) (Py .i64 [1152921504606846976,0]) (KN _ _ .i64 [1152921504606846976,0])
  have:=World.var?_cell aH hv0 i
  show W.cell? ⟨2,0+i,none⟩=_
  rw[Nat.zero_add,this]
  match i,hi with
  |0,_=>rfl
  |1,_=>rfl
 split at hu
 ·rename_i q; subst q
  cases hu
  exact⟨fun h=>by (cases h),fun _ μ=>Mw XM s1 s2 s3,fun cs hc=>(by cases hc)⟩
 split at hu
 ·rename_i q; subst q
  cases hu
  exact⟨fun h=>by (cases h),fun _ μ=>Mw aG r1 r2 r3,fun cs hc=>(by cases hc)⟩
 ·cases hu
end Go.Am
